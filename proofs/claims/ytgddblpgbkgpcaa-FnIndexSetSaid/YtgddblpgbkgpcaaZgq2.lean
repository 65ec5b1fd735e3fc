/- Part of the proof of fnIndexSet_holds. -/
import Derived.Test.YtgddblpgbkgpcaaZgq1
import Derived.Test.YtgddblpgbkgpcaaZgq0
import Derived.Test.YtgddblpgbkgpcaaZgr0
import Derived.Lib.Hide
namespace Go.Proofs.Ytgddblpgbkgpcaa.PR
set_option linter.unusedVariables false
set_option linter.unusedSimpArgs false
open Go.RowKit Go.Proofs.YtgddblpgbkgpcaaW.PrintWords Go.Proofs.YtgddblpgbkgpcaaW.PrintLast Go.Proofs.YtgddblpgbkgpcaaW.PrintMore
set_option linter.unusedVariables false
set_option linter.unusedSimpArgs false
theorem plc_unique {k : Int} {t : ByteArray} {n i c i' c' : Int} (h : Plc k t n i c) (h' : Plc k t n i' c') : i = i' ∧ c = c' := by
  rcases h with ⟨h1, h2, h3⟩ | ⟨h1, h2, h3, h4⟩ | ⟨h1, h2, h3, h4⟩ <;> rcases h' with ⟨g1, g2, g3⟩ | ⟨g1, g2, g3, g4⟩ | ⟨g1, g2, g3, g4⟩ <;> first | omega | exact absurd g1 h1 | exact absurd h1 g1 | exact absurd h2 g2 | exact absurd g2 h2
theorem ix_unique {l : List S35} {x : S35} {r r' : Int} (h : Ix l x r) (h' : Ix l x r') : r = r' := by
  rcases h with ⟨rfl, h⟩ | ⟨k, rfl, hk, hj⟩
  · rcases h' with ⟨rfl, _⟩ | ⟨k', rfl, hk', _⟩
    · rfl
    · exact absurd (List.mem_of_getElem? hk') h
  · exact (ix_at h' hk (by
      rcases h' with ⟨rfl, _⟩ | ⟨k', rfl, hk', hj'⟩
      · exact .inl rfl
      · right
        rcases Nat.lt_or_ge k' k with hlt | hge
        · exact absurd hk' (hj k' hlt)
        · omega)).symm
def GotO (o : S46) (kk y : S35) (c : Int) : Prop :=
  (o.f0 = 1 ∧ ∃ i c', Plc kk.f0 kk.f1 o.f3.length i c' ∧ ((c' ≠ -1 ∧ y = zV ∧ c = c') ∨ (c' = -1 ∧ c = -1 ∧ ∃ j : Nat, i = j ∧ o.f3[j]? = some y))) ∨
  (o.f0 = 2 ∧ ∃ q, Ix o.f4 kk q ∧ ((q = -1 ∧ y = zV ∧ c = 5) ∨ (c = -1 ∧ ∃ j : Nat, q = j ∧ o.f3[j]? = some y))) ∨
  (o.f0 ≠ 1 ∧ o.f0 ≠ 2 ∧ y = zV ∧ c = 1)
theorem got_obj {l : List S46} {v kk y : S35} {c : Int} {r : Nat} {o : S46} (h : Got l v kk y c) (hk : kk.f0 ≠ 4) (h4 : v.f0 = 4) (hr : v.f2 = r) (ho : l[r]? = some o) : GotO o kk y c := by
  have same : ∀ {r' : Nat} {o' : S46}, v.f2 = r' → l[r']? = some o' → o' = o := fun {r' o'} h1 h2 => by
    obtain rfl : r' = r := by omega
    exact Option.some.inj (h2.symm.trans ho)
  cases h with
  | te i c g1 => omega
  | ti j g1 => omega
  | le r' o' i c g1 g2 g3 g4 g5 g6 => obtain rfl := same g2 g3; exact .inl ⟨g4, i, _, g5, .inl ⟨g6, rfl, rfl⟩⟩
  | li r' o' j _ g1 g2 g3 g4 g5 g6 => obtain rfl := same g2 g3; exact .inl ⟨g4, j, _, g5, .inr ⟨rfl, rfl, j, rfl, g6⟩⟩
  | dr r' o' g1 g2 g3 g4 g5 => exact absurd g5 hk
  | dm r' o' g1 g2 g3 g4 g5 g6 => obtain rfl := same g2 g3; exact .inr (.inl ⟨g4, -1, g6, .inl ⟨rfl, rfl, rfl⟩⟩)
  | df r' o' j _ g1 g2 g3 g4 g5 g6 g7 => obtain rfl := same g2 g3; exact .inr (.inl ⟨g4, j, g6, .inr ⟨rfl, j, rfl, g7⟩⟩)
  | xo r' o' g1 g2 g3 g4 g5 => obtain rfl := same g2 g3; exact .inr (.inr ⟨g4, g5, rfl, rfl⟩)
  | xv g1 g2 => exact absurd h4 g2
end Go.Proofs.Ytgddblpgbkgpcaa.PR
namespace Go.Proofs.Ytgddblpgbkgpcaa.PR
set_option linter.unusedVariables false
set_option linter.unusedSimpArgs false
open Go.RowKit Go.Proofs.YtgddblpgbkgpcaaW.PrintWords Go.Proofs.YtgddblpgbkgpcaaW.PrintLast Go.Proofs.YtgddblpgbkgpcaaW.PrintMore
set_option linter.unusedVariables false
set_option linter.unusedSimpArgs false
theorem set_or {l : List S35} {j i : Nat} {x a b : S35} (ha : l[i]? = some a) (hb : (l.set j x)[i]? = some b) : a = b ∨ b = x := by
  by_cases h : j = i
  · subst h
    rw [List.getElem?_set_self (List.getElem?_eq_some_iff.1 ha).1] at hb
    exact .inr (Option.some.inj hb).symm
  · rw [List.getElem?_set_ne h, ha] at hb
    exact .inl (Option.some.inj hb)
theorem gotO_item {o : S46} {x kk a b : S35} {one two : Int} {j : Nat} (h : GotO o kk a one) (h' : GotO { o with f3 := o.f3.set j x } kk b two) : (a = b ∨ b = x) ∧ (one = -1 → two = -1) := by
  rcases h with ⟨k1, i, c, hp, h⟩ | ⟨k2, q, hq, h⟩ | ⟨k1, k2, rfl, rfl⟩
  · rcases h' with ⟨_, i', c', hp', h'⟩ | ⟨g, _⟩ | ⟨g, _⟩
    · have hp2 : Plc kk.f0 kk.f1 o.f3.length i' c' := by
        have : (o.f3.set j x).length = o.f3.length := List.length_set
        rw [← this]; exact hp'
      obtain ⟨rfl, rfl⟩ := plc_unique hp hp2
      rcases h with ⟨n1, rfl, rfl⟩ | ⟨rfl, rfl, m, rfl, hm⟩
      · rcases h' with ⟨_, rfl, rfl⟩ | ⟨e, _⟩
        · exact ⟨.inl rfl, fun h => h⟩
        · exact absurd e n1
      · rcases h' with ⟨n1, _⟩ | ⟨_, rfl, m', e, hm'⟩
        · exact absurd rfl n1
        · obtain rfl : m = m' := by omega
          exact ⟨set_or hm hm', fun _ => rfl⟩
    · have : o.f0 = 2 := g
      omega
    · exact absurd k1 g
  · rcases h' with ⟨g, _⟩ | ⟨_, q', hq', h'⟩ | ⟨_, g, _⟩
    · have : o.f0 = 1 := g
      omega
    · obtain rfl := ix_unique hq hq'
      rcases h with ⟨rfl, rfl, rfl⟩ | ⟨rfl, m, rfl, hm⟩
      · rcases h' with ⟨_, rfl, rfl⟩ | ⟨_, m', e, _⟩
        · exact ⟨.inl rfl, fun h => h⟩
        · omega
      · rcases h' with ⟨e, _⟩ | ⟨rfl, m', e, hm'⟩
        · omega
        · obtain rfl : m = m' := by omega
          exact ⟨set_or hm hm', fun _ => rfl⟩
    · exact absurd k2 g
  · rcases h' with ⟨g, _⟩ | ⟨g, _⟩ | ⟨_, _, rfl, rfl⟩
    · exact absurd g k1
    · exact absurd g k2
    · exact ⟨.inl rfl, fun h => h⟩
theorem gotO_grow {o : S46} {x k kk a b : S35} {one two : Int} (h2 : o.f0 = 2) (hl : o.f3.length = o.f4.length) (h : GotO o kk a one) (h' : GotO { o with f3 := o.f3 ++ [x], f4 := o.f4 ++ [k] } kk b two) : (a = b ∨ b = x) ∧ (one = -1 → two = -1) := by
  rcases h with ⟨g, _⟩ | ⟨k2, q, hq, h⟩ | ⟨_, g, _⟩
  · omega
  · rcases h' with ⟨g, _⟩ | ⟨_, q', hq', h'⟩ | ⟨_, g, _⟩
    · have : o.f0 = 1 := g
      omega
    · have hq2 : Ix (o.f4 ++ [k]) kk q' := hq'
      rcases h with ⟨rfl, rfl, rfl⟩ | ⟨rfl, m, rfl, hm⟩
      · refine ⟨?_, fun h => by omega⟩
        rcases h' with ⟨_, rfl, rfl⟩ | ⟨_, m', rfl, hm'⟩
        · exact .inl rfl
        · right
          have hn : kk ∉ o.f4 := by
            rcases hq with ⟨_, h⟩ | ⟨_, e, _⟩
            · exact h
            · omega
          rcases hq2 with ⟨e, _⟩ | ⟨m2, e, hm2, _⟩
          · omega
          · obtain rfl : m' = m2 := by omega
            rcases Nat.lt_or_ge m' o.f4.length with hlt | hge
            · rw [List.getElem?_append_left hlt] at hm2
              exact absurd (List.mem_of_getElem? hm2) hn
            · have hm3 : (o.f3 ++ [x])[m']? = some b := hm'
              rw [List.getElem?_append_right (by omega)] at hm3
              have := (List.getElem?_eq_some_iff.1 hm3).1
              obtain e0 : m' - o.f3.length = 0 := by simp at this; omega
              rw [e0] at hm3
              exact (Option.some.inj hm3).symm
      · have hqm : Ix (o.f4 ++ [k]) kk m := by
          rcases hq with ⟨e, _⟩ | ⟨m2, e, h5, h6⟩
          · omega
          · obtain rfl : m = m2 := by omega
            have hlt := (List.getElem?_eq_some_iff.1 h5).1
            refine .inr ⟨m, rfl, by rw [List.getElem?_append_left hlt]; exact h5, fun j hj => ?_⟩
            rw [List.getElem?_append_left (by omega)]
            exact h6 j hj
        obtain rfl := ix_unique hqm hq2
        rcases h' with ⟨e, _⟩ | ⟨rfl, m', e, hm'⟩
        · omega
        · obtain rfl : m = m' := by omega
          have hm3 : (o.f3 ++ [x])[m]? = some b := hm'
          rw [List.getElem?_append_left (List.getElem?_eq_some_iff.1 hm).1, hm] at hm3
          exact ⟨.inl (Option.some.inj hm3), fun _ => rfl⟩
    · exact absurd k2 g
  · omega
end Go.Proofs.Ytgddblpgbkgpcaa.PR
namespace Go.Proofs.Ytgddblpgbkgpcaa.PR
set_option linter.unusedVariables false
set_option linter.unusedSimpArgs false
open Go.RowKit Go.Proofs.YtgddblpgbkgpcaaW.PrintWords Go.Proofs.YtgddblpgbkgpcaaW.PrintLast Go.Proofs.YtgddblpgbkgpcaaW.PrintMore
set_option linter.unusedVariables false
set_option linter.unusedSimpArgs false
theorem put_other {l l' : List S46} {v k x kk a b : S35} {one two : Int} (h : Put l v k x l' (-1)) (hd : ∀ o ∈ l, o.f0 = 2 → o.f3.length = o.f4.length) (hkk : kk.f0 ≠ 4) (ha : Got l v kk a one) (hb : Got l' v kk b two) : (a = b ∨ b = x) ∧ (one = -1 → two = -1) := by
  have at_ : ∀ {r : Nat} {o o' : S46}, l[r]? = some o → (l.set r o')[r]? = some o' := fun {r o o'} h => List.getElem?_set_self (List.getElem?_eq_some_iff.1 h).1
  cases h with
  | le r o i c h1 h2 h3 h4 h5 h6 => exact absurd rfl h6
  | li r o j h1 h2 h3 => exact gotO_item (got_obj ha hkk h1 h2 h3) (got_obj hb hkk h1 h2 (at_ h3))
  | df r o j h1 h2 h3 => exact gotO_item (got_obj ha hkk h1 h2 h3) (got_obj hb hkk h1 h2 (at_ h3))
  | da r o h1 h2 h3 h4 => exact gotO_grow h4 (hd o (List.mem_of_getElem? h3) h4) (got_obj ha hkk h1 h2 h3) (got_obj hb hkk h1 h2 (at_ h3))
end Go.Proofs.Ytgddblpgbkgpcaa.PR
namespace Go.Proofs.Ytgddblpgbkgpcaa.PR
set_option linter.unusedVariables false
set_option linter.unusedSimpArgs false
open Go.RowKit Go.Proofs.YtgddblpgbkgpcaaW.PrintWords Go.Proofs.YtgddblpgbkgpcaaW.PrintLast Go.Proofs.YtgddblpgbkgpcaaW.PrintMore
set_option linter.unusedVariables false
set_option linter.unusedSimpArgs false
theorem veq_eq {a b : S35} (h : B.veq (tV a) (tV b) = true) : a = b := by
  unfold B.veq at h
  simp only [Bool.and_eq_true, beq_iff_eq, tV] at h
  obtain ⟨⟨h0, h1⟩, h2⟩ := h
  obtain ⟨a0, a1, a2⟩ := a
  obtain ⟨b0, b1, b2⟩ := b
  simp only at h0 h1 h2
  subst h0 h2
  have : a1 = b1 := by
    rcases Classical.em (a1 = b1) with h | h
    · exact h
    · exact absurd h1 (toList_ne h)
  rw [this]
theorem ksOk_snoc {l : List S35} {k : S35} (h : B.ksOk (l.map tV) = true) (h4 : k.f0 ≠ 4) (hx : Ix l k (-1)) : B.ksOk ((l ++ [k]).map tV) = true := by
  have hk : k ∉ l := by
    rcases hx with ⟨-, h⟩ | ⟨q, h, -⟩
    · exact h
    · omega
  unfold B.ksOk at h ⊢
  rw [List.length_map, List.length_append, List.length_singleton]
  simp only [B.allN, Bool.and_eq_true]
  rw [List.length_map] at h
  refine ⟨?_, ?_, ?_⟩
  · rw [← h]
    refine allN_congr _ (fun q hq => ?_)
    rw [List.map_append, List.getD_eq_getElem?_getD, List.getD_eq_getElem?_getD, List.getElem?_append_left (by simpa using hq), List.take_append_of_le_length (by simpa using Nat.le_of_lt hq)]
  · rw [List.map_append, List.getD_eq_getElem?_getD, List.getElem?_append_right (by simp)]
    simp [tV, h4]
  · rw [List.map_append, List.getD_eq_getElem?_getD, List.getElem?_append_right (by simp), List.take_append_of_le_length (by simp)]
    simp only [List.length_map, Nat.sub_self, List.map_cons, List.map_nil, List.getElem?_cons_zero, Option.getD_some, Bool.not_eq_true', B.vhas, List.any_eq_false]
    intro y hy hv
    rw [← List.length_map (f := tV), List.take_length] at hy
    obtain ⟨z, hz, rfl⟩ := List.mem_map.1 hy
    exact hk (veq_eq hv ▸ hz)
end Go.Proofs.Ytgddblpgbkgpcaa.PR
namespace Go.Proofs.Ytgddblpgbkgpcaa.PR
set_option linter.unusedVariables false
set_option linter.unusedSimpArgs false
open Go.RowKit Go.Proofs.YtgddblpgbkgpcaaW.PrintWords Go.Proofs.YtgddblpgbkgpcaaW.PrintLast Go.Proofs.YtgddblpgbkgpcaaW.PrintMore
set_option linter.unusedVariables false
set_option linter.unusedSimpArgs false
theorem objB_item {n : Nat} {o : S46} {x : S35} (j : Nat) (h : B.objB B.nsOk n (tO o) = true) (hx : B.valOk n (tV x) = true) (hk : o.f0 = 1 ∨ o.f0 = 2) : B.objB B.nsOk n (tO { o with f3 := o.f3.set j x }) = true := by
  unfold B.objB at h ⊢
  simp only [Bool.and_eq_true] at h ⊢
  obtain ⟨⟨⟨hh, hns⟩, hm⟩, ht⟩ := h
  refine ⟨⟨⟨?_, hns⟩, hm⟩, ?_⟩
  · unfold B.headB at hh ⊢
    simp only [Bool.and_eq_true, tO, List.length_map, List.length_set] at hh ⊢
    obtain ⟨⟨⟨⟨⟨⟨⟨⟨h0, h1⟩, h2⟩, h3⟩, h4⟩, h5⟩, h6⟩, h7⟩, h8⟩ := hh
    refine ⟨⟨⟨⟨⟨⟨⟨⟨h0, ?_⟩, h2⟩, h3⟩, h4⟩, h5⟩, h6⟩, h7⟩, h8⟩
    rw [List.all_eq_true] at h1 ⊢
    intro y hy
    obtain ⟨z, hz, rfl⟩ := List.mem_map.1 hy
    rcases List.mem_or_eq_of_mem_set hz with hz | rfl
    · exact h1 _ (List.mem_map_of_mem hz)
    · exact hx
  · unfold B.tailB at ht ⊢
    rcases hk with hk | hk
    · have e : (tO o).k = 1 := hk
      have e' : (tO { o with f3 := o.f3.set j x }).k = 1 := hk
      rw [if_neg (by omega), if_pos e] at ht
      rw [if_neg (by omega), if_pos e']
      exact ht
    · have e : (tO o).k = 2 := hk
      have e' : (tO { o with f3 := o.f3.set j x }).k = 2 := hk
      rw [if_neg (by omega), if_neg (by omega), if_neg (by omega), if_pos e] at ht
      rw [if_neg (by omega), if_neg (by omega), if_neg (by omega), if_pos e']
      simpa [tO] using ht
theorem objB_grow {n : Nat} {o : S46} {k x : S35} (h : B.objB B.nsOk n (tO o) = true) (hk : B.valOk n (tV k) = true) (hx : B.valOk n (tV x) = true) (h2 : o.f0 = 2) (h4 : k.f0 ≠ 4) (hi : Ix o.f4 k (-1)) (h60 : o.f4.length < 60) : B.objB B.nsOk n (tO { o with f3 := o.f3 ++ [x], f4 := o.f4 ++ [k] }) = true := by
  unfold B.objB at h ⊢
  simp only [Bool.and_eq_true] at h ⊢
  obtain ⟨⟨⟨hh, hns⟩, hm⟩, ht⟩ := h
  have e : (tO o).k = 2 := h2
  unfold B.tailB at ht
  rw [if_neg (by omega), if_neg (by omega), if_neg (by omega), if_pos e] at ht
  simp only [Bool.and_eq_true, decide_eq_true_eq] at ht
  obtain ⟨⟨hks, hlen⟩, hpl⟩ := ht
  have hlen' : o.f4.length = o.f3.length := by simpa [tO] using hlen
  refine ⟨⟨⟨?_, hns⟩, hm⟩, ?_⟩
  · unfold B.headB at hh ⊢
    simp only [Bool.and_eq_true, tO, List.length_map, List.length_append, List.length_singleton, decide_eq_true_eq] at hh ⊢
    obtain ⟨⟨⟨⟨⟨⟨⟨⟨h0, h1⟩, h2'⟩, h3⟩, h4'⟩, h5⟩, h6⟩, h7⟩, h8⟩ := hh
    refine ⟨⟨⟨⟨⟨⟨⟨⟨h0, ?_⟩, ?_⟩, h3⟩, by omega⟩, by omega⟩, h6⟩, h7⟩, h8⟩
    · rw [List.map_append, List.all_append, h1]; simp [hx]
    · rw [List.map_append, List.all_append, h2']; simp [hk]
  · unfold B.tailB
    have e' : (tO { o with f3 := o.f3 ++ [x], f4 := o.f4 ++ [k] }).k = 2 := h2
    rw [if_neg (by omega), if_neg (by omega), if_neg (by omega), if_pos e']
    simp only [Bool.and_eq_true, decide_eq_true_eq]
    exact ⟨⟨ksOk_snoc hks h4 hi, by simp [tO, hlen']⟩, hpl⟩
theorem okH_put {l l' : List S46} {v k x : S35} {cc : Int} (h : Put l v k x l' cc) (hH : okH l = true) (hk : B.valOk l.length (tV k) = true) (hx : B.valOk l.length (tV x) = true) : okH l' = true := by
  have hlen := put_len h
  unfold okH at hH ⊢
  rw [hlen]
  simp only [Bool.and_eq_true, List.all_eq_true] at hH ⊢
  refine ⟨hH.1, ?_⟩
  have h0 : ∀ o ∈ l, B.objB B.nsOk l.length (tO o) = true := fun o ho => hH.2 _ (List.mem_map_of_mem ho)
  have hs : ∀ (r : Nat) (o' : S46), B.objB B.nsOk l.length (tO o') = true → ∀ y ∈ (l.set r o').map tO, B.objB B.nsOk l.length y = true := fun r o' hq y hy => by
    obtain ⟨o, ho, rfl⟩ := List.mem_map.1 hy
    rcases List.mem_or_eq_of_mem_set ho with ho | rfl
    · exact h0 o ho
    · exact hq
  cases h with
  | li r o j a b c d => exact hs _ _ (objB_item j (h0 o (List.mem_of_getElem? c)) hx (.inl d))
  | df r o j a b c d => exact hs _ _ (objB_item j (h0 o (List.mem_of_getElem? c)) hx (.inr d))
  | da r o a b c d e f g => exact hs _ _ (objB_grow (h0 o (List.mem_of_getElem? c)) hk hx d e f g)
  | _ => exact hH.2
end Go.Proofs.Ytgddblpgbkgpcaa.PR
namespace Go.Proofs.Ytgddblpgbkgpcaa.PR
set_option linter.unusedVariables false
set_option linter.unusedSimpArgs false
open Go.RowKit Go.Proofs.YtgddblpgbkgpcaaW.PrintWords Go.Proofs.YtgddblpgbkgpcaaW.PrintLast Go.Proofs.YtgddblpgbkgpcaaW.PrintMore
set_option linter.unusedVariables false
set_option linter.unusedSimpArgs false
def oW (o : S46) : Prop := o.f1.size ≤ 100 ∧ o.f3.length ≤ 100 ∧ o.f4.length ≤ 100 ∧ o.f5.length ≤ 100 ∧ o.f6.length ≤ 100 ∧ (∀ x ∈ o.f3, x.f1.size ≤ 100) ∧ (∀ x ∈ o.f4, x.f1.size ≤ 100) ∧ (∀ x ∈ o.f6, x.f1.size ≤ 100) ∧ ∀ s ∈ o.f5, s.size ≤ 100
theorem ro_w {w : World} {A : Option Addr} {n : Nat} {l : List S46} (h : Kd.C k46 w A n l) (hs : ∀ o ∈ l, oW o) (hl : l.length ≤ 1000) : B.RO w A (l.map tO) := by
  have hn : l.length = n := h.1
  refine ⟨by simp; omega, fun h0 => ?_⟩
  simp only [List.length_map] at h0
  obtain ⟨ad, _, _, _, _, _, _, _, _, rfl, _⟩ := at_T46 h 0 (by omega) (by omega)
  refine ⟨ad, rfl, fun i hi => ?_⟩
  simp only [List.length_map] at hi
  obtain ⟨ad', A3, c3, A4, c4, A5, c5, A6, c6, e, g0, g1, g2, g3, g4, g5, g6, l3, r3, l4, r4, l5, r5, l6, r6⟩ := at_T46 h (i : Int) (by omega) (by omega)
  injection e with e
  subst e
  rw [rd46 hi] at g0 g1 g2 g3 g4 g5 g6 l3 r3 l4 r4 l5 r5 l6 r6
  simp only [Int.toNat_natCast] at g0 g1 g2 g3 g4 g5 g6
  obtain ⟨a1, a2, a3, a4, a5, a6, a7, a8, a9⟩ := hs _ (List.getElem_mem hi)
  have q5 := rs_of r5 (by omega)
  rw [List.getElem_map]
  refine ⟨A3, c3, A4, c4, A5, c5, A6, c6, g0, g1, g2, ?_, ?_, g5, ?_, ?_, rv_of r3 a6 (by omega), ?_, rv_of r4 a7 (by omega), l5, q5, ?_, rv_of r6 a8 (by omega), ?_, fun s hs => ?_⟩
  · simpa [tO] using g3
  · simpa [tO] using g4
  · simpa [tO] using g6
  · simpa [tO] using l3
  · simpa [tO] using l4
  · simpa [tO] using l6
  · simp only [tO]; omega
  · have := a9 s hs; omega
theorem put_oW {l l' : List S46} {v k x : S35} {cc : Int} (h : Put l v k x l' cc) (hob : ∀ o ∈ l, oB o = true) (hk : k.f1.size ≤ 5) (hx : x.f1.size ≤ 5) : ∀ o ∈ l', oW o := by
  have base : ∀ o, oB o = true → oW o := fun o ho => by
    obtain ⟨a1, a2, a3, a4, a5, a6, a7, a8, a9⟩ := oB_facts ho
    exact ⟨a1, by omega, by omega, by omega, by omega, fun y hy => Nat.le_trans (a6 y hy) (by decide), fun y hy => Nat.le_trans (a7 y hy) (by decide), fun y hy => Nat.le_trans (a8 y hy) (by decide), fun s hs => nm4_small s (a9 s hs)⟩
  refine put_all h hob base (fun o j ho => ?_) (fun o ho => ?_)
  · obtain ⟨a1, a2, a3, a4, a5, a6, a7, a8, a9⟩ := base o ho
    refine ⟨a1, by simpa using a2, a3, a4, a5, fun y hy => ?_, a7, a8, a9⟩
    rcases List.mem_or_eq_of_mem_set hy with hy | rfl
    · exact a6 y hy
    · omega
  · obtain ⟨b1, b2, b3, -⟩ := oB_facts ho
    obtain ⟨a1, a2, a3, a4, a5, a6, a7, a8, a9⟩ := base o ho
    refine ⟨a1, by simp; omega, by simp; omega, a4, a5, fun y hy => ?_, fun y hy => ?_, a8, a9⟩
    · rcases List.mem_append.1 hy with hy | hy
      · exact a6 y hy
      · rw [List.mem_singleton.1 hy]; omega
    · rcases List.mem_append.1 hy with hy | hy
      · exact a7 y hy
      · rw [List.mem_singleton.1 hy]; omega
theorem heapOk_W {A : Option Addr} {n : Nat} (c : Nat) {l : List S46} {w : World} (hC : Kd.C k46 w A n l) (ob : ∀ o ∈ l, oW o) (hl : l.length ≤ 1000) :
    Calls Try.prog 30 #[.agg #[.slice A n c]] w fun e w' => e = .returned (.bool (okH l)) ∧ Below w.heap.size w w' := by
  have h := B.heapOk_ok A c (l.map tO) w (ro_w hC ob hl)
  rw [List.length_map, hC.1] at h
  rw [show okH l = (decide (n ≤ 600) && (l.map tO).all (B.objB B.nsOk n)) by unfold okH; rw [hC.1]]
  exact h
set_option maxRecDepth 100000 in
set_option maxHeartbeats 4000000 in
theorem doIndexW_w (A : Option Addr) (n c : Nat) (l : List S46) (v k : S35) (y : S35) (cc : Int) (w : World) (hC : Kd.C k46 w A n l) (hc : n ≤ c) (hn : n ≤ 1000) (hob : ∀ o ∈ l, oW o) (hv5 : v.f1.size ≤ 5) (hk5 : k.f1.size ≤ 5) (h : Di l v k y cc) :
    Calls Try.prog 34 #[.agg #[.slice A n c], .agg #[.int .i64 v.f0, .string v.f1, .int .i64 v.f2], .agg #[.int .i64 k.f0, .string k.f1, .int .i64 k.f2]] w (GPost w y cc) := by
  obtain ⟨W, hW⟩ : ∃ W : World, W = (((w.alloc (.cells #[.slice A n c] 25)).alloc (.cells #[.int .i64 v.f0, .string v.f1, .int .i64 v.f2] 35)).alloc (.cells #[.int .i64 k.f0, .string k.f1, .int .i64 k.f2] 35)).alloc (.cells #[.int .i64 0, .string ⟨#[]⟩, .int .i64 0] 35) := ⟨_, rfl⟩
  have BX := Aside0.mk (bx_new w n c A v k W hW)
  have HC := Aside0.mk (Kd.C_below hC BX.out.bl)
  have hl := hC.1
  have HOB := Aside0.mk hob
  have HOL := Aside0.mk (fun o (ho : o ∈ l) => (show oL o from by obtain ⟨-, h3, h4, h5, h6, -⟩ := hob o ho; exact ⟨by omega, by omega, by omega, by omega⟩))
  have HLL := Aside0.mk (show l.length ≤ 1000 by omega)
  have HL := Aside0.mk hl
  have HVS := Aside0.mk (show ∀ x ∈ [v, k], x.f1.size ≤ 100 by
    intro x hx
    simp only [List.mem_cons, List.not_mem_nil, or_false] at hx
    rcases hx with rfl | rfl <;> omega)
  have HW := Lib.hid hW
  obtain ⟨p0, v0, v1, v2, k0, k1, k2, zb, z0, z1, z2, f0, f1, f2, -⟩ := BX.out
  have HCC := Aside0.mk hc
  clear hW zb hC hc hob
  have h30 := heapOk_W (w := W) c HC.out HOB.out HLL.out
  unfold Di at h
  rw [okB_eq, hl] at h
  cases hH : okH l
  · rw [hH] at h h30
    have HH := Aside0.mk h30
    obtain ⟨rfl, rfl⟩ : y = zV ∧ cc = 10 := by rcases h with h | h; exact h.2; simp at h
    clear hH h30 h
    go_enter Try.func34, Try.ntmps34
    go_upto_region 1 with (fail)
    rw [← HW.out]
    go_wp2_with (first | (go_at_call 30; refine HH.out.mono ?_; rintro e w1 ⟨rfl, hB⟩; replace BX := Aside0.mk (BX.out.below hB); clear p0 v0 v1 v2 k0 k1 k2 z0 z1 z2 f0 f1 f2; obtain ⟨p0, v0, v1, v2, k0, k1, k2, zb, z0, z1, z2, f0, f1, f2, -⟩ := BX.out; clear zb; replace HC := Aside0.mk (Kd.C_below HC.out hB); clear hB))
    refine bodyPost_ret (fin35 rfl _ w1 _ _ _ _ BX.out.zb _ _ _ rfl) rfl ⟨rfl, set35 BX.out.bl (by omega) _ _ _⟩

  · rw [hH, Bool.true_and] at h
    rw [hH] at h30
    have HH := Aside0.mk h30
    clear hH h30
    have HVK := Aside0.mk (fun (X : World) => valuesOk_k (A := A) (n := n) c hn 2 (C_two X v k) HVS.out (by simp))
    cases hV : okV n [v, k]
    · rw [hV] at h HVK
      obtain ⟨rfl, rfl⟩ : y = zV ∧ cc = 10 := by rcases h with h | h; exact h.2; simp at h
      clear hV h
      go_enter Try.func34, Try.ntmps34
      go_upto_region 1 with (fail)
      rw [← HW.out]
      go_wp2_with (first | (go_at_call 30; refine HH.out.mono ?_; rintro e w1 ⟨rfl, hB⟩; replace BX := Aside0.mk (BX.out.below hB); clear p0 v0 v1 v2 k0 k1 k2 z0 z1 z2 f0 f1 f2; obtain ⟨p0, v0, v1, v2, k0, k1, k2, zb, z0, z1, z2, f0, f1, f2, -⟩ := BX.out; clear zb; replace HC := Aside0.mk (Kd.C_below HC.out hB); clear hB) | (go_at_call 53; refine (HVK.out _).mono ?_; rintro e w2 ⟨rfl, hB2⟩; have hB := bst (bla (Below.refl w1.heap.size w1) (.cells #[.int .i64 v.f0, .string v.f1, .int .i64 v.f2, .int .i64 k.f0, .string k.f1, .int .i64 k.f2] 35)) hB2; replace BX := Aside0.mk (BX.out.below hB); clear p0 v0 v1 v2 k0 k1 k2 z0 z1 z2 f0 f1 f2; obtain ⟨p0, v0, v1, v2, k0, k1, k2, zb, z0, z1, z2, f0, f1, f2, -⟩ := BX.out; clear zb; replace HC := Aside0.mk (Kd.C_below HC.out hB); clear hB hB2))
      refine bodyPost_ret (fin35 rfl _ w2 _ _ _ _ BX.out.zb _ _ _ rfl) rfl ⟨rfl, set35 BX.out.bl (by omega) _ _ _⟩

    · rw [hV] at h HVK
      have hGot : Got l v k y cc := by rcases h with h | h; simp at h; exact h.2
      have hki : k.f0 = 2 → B.intB k.f1 = true ∧ k.f1.size ≤ 5 := by
        rw [okV_two, Bool.and_eq_true] at hV
        exact fun h2 => ⟨val_int hV.2 h2, hk5⟩
      have HIN := Aside0.mk (fun (X : World) (hX : Kd.C k46 X A n l) => iindex_w A n c l v k y cc X hX HCC.out hn (by omega) HOL.out hki hGot)
      clear hV h hGot hki
      go_enter Try.func34, Try.ntmps34
      go_upto_region 1 with (fail)
      rw [← HW.out]
      go_wp2_with (first | (go_at_call 30; refine HH.out.mono ?_; rintro e w1 ⟨rfl, hB⟩; replace BX := Aside0.mk (BX.out.below hB); clear p0 v0 v1 v2 k0 k1 k2 z0 z1 z2 f0 f1 f2; obtain ⟨p0, v0, v1, v2, k0, k1, k2, zb, z0, z1, z2, f0, f1, f2, -⟩ := BX.out; clear zb; replace HC := Aside0.mk (Kd.C_below HC.out hB); clear hB) | (go_at_call 53; refine (HVK.out _).mono ?_; rintro e w2 ⟨rfl, hB2⟩; have hB := bst (bla (Below.refl w1.heap.size w1) (.cells #[.int .i64 v.f0, .string v.f1, .int .i64 v.f2, .int .i64 k.f0, .string k.f1, .int .i64 k.f2] 35)) hB2; replace BX := Aside0.mk (BX.out.below hB); clear p0 v0 v1 v2 k0 k1 k2 z0 z1 z2 f0 f1 f2; obtain ⟨p0, v0, v1, v2, k0, k1, k2, zb, z0, z1, z2, f0, f1, f2, -⟩ := BX.out; clear zb; replace HC := Aside0.mk (Kd.C_below HC.out hB); clear hB hB2) | (go_at_call 73; refine (HIN.out _ HC.out).mono ?_; rintro e w3 ⟨rfl, hB⟩; replace BX := Aside0.mk (BX.out.below hB); clear p0 v0 v1 v2 k0 k1 k2 z0 z1 z2 f0 f1 f2; obtain ⟨p0, v0, v1, v2, k0, k1, k2, zb, z0, z1, z2, f0, f1, f2, -⟩ := BX.out; clear zb; replace HC := Aside0.mk (Kd.C_below HC.out hB); clear hB))
      refine bodyPost_ret (fin35 rfl _ w3 _ _ _ _ BX.out.zb _ _ _ rfl) rfl ⟨rfl, set35 BX.out.bl (by omega) _ _ _⟩
end Go.Proofs.Ytgddblpgbkgpcaa.PR
namespace Go.Proofs.Ytgddblpgbkgpcaa.PR
set_option linter.unusedVariables false
set_option linter.unusedSimpArgs false
open Go.RowKit Go.Proofs.YtgddblpgbkgpcaaW.PrintWords Go.Proofs.YtgddblpgbkgpcaaW.PrintLast Go.Proofs.YtgddblpgbkgpcaaW.PrintMore
set_option linter.unusedVariables false
set_option linter.unusedSimpArgs false
theorem cp_step {w Wi t : World} {b1 : Nat} {cs zs : Array Value} {α : Type} {d : Kd α} {e : Nat} {v : Value} {xs : List α} (hb : b1 = w.heap.size) (hw : Below w.heap.size w Wi) (c1 : Wi.heap[b1]? = some (.cells cs 46 (0, 0))) (c2 : Wi.heap[b1 + 1]? = some (.cells zs 46 (0, 0))) (ht : Below Wi.heap.size Wi t) (j : Nat) (hr : d.R e t Wi.heap.size (fun _ => True) v xs) (V : World) (hV : V = t.setCell ⟨b1, j, none⟩ v) :
    Below w.heap.size w V ∧ V.heap[b1 + 1]? = some (.cells zs 46 (0, 0)) ∧ d.R e V w.heap.size (fun k => k ≠ b1 ∧ k ≠ b1 + 1) v xs ∧ (∀ {β : Type} {d' : Kd β} {e' : Nat} {v' : Value} {ys : List β}, d'.R e' Wi w.heap.size (fun k => k ≠ b1 ∧ k ≠ b1 + 1) v' ys → d'.R e' V w.heap.size (fun k => k ≠ b1 ∧ k ≠ b1 + 1) v' ys) := by
  subst hV
  have l2 := blk_lt c2
  have h1 := hw.size
  refine ⟨(bst hw ht).setCell (by simp; omega) _, blk_far (kbw c2 ht) (by simp) _, ?_, fun h => ?_⟩
  · exact Kd.R_mono (Kd.R_lower (Kd.R_far (Kd.R_bound hr) (fun k hk => by have := hk.2.1; simp; omega) _) h1) (fun k hk => by have := hk.2.1; omega)
  · exact Kd.R_far (Kd.R_below h ht) (fun k hk => hk.1) _
set_option maxRecDepth 100000 in
set_option maxHeartbeats 40000000 in
theorem copy122_w (x : S46) (A3 : Option Addr) (n3 c3 : Nat) (A4 : Option Addr) (n4 c4 : Nat) (A5 : Option Addr) (n5 c5 : Nat) (A6 : Option Addr) (n6 c6 : Nat) (w : World)
    (h3 : Kd.C k35 w A3 n3 x.f3) (h4 : Kd.C k35 w A4 n4 x.f4) (h5 : Kd.C Kd.string w A5 n5 x.f5) (h6 : Kd.C k35 w A6 n6 x.f6) (l3 : n3 ≤ 1000) (l4 : n4 ≤ 1000) (l5 : n5 ≤ 1000) (l6 : n6 ≤ 1000) :
    Calls Try.prog 122 #[.agg #[.int .i64 x.f0, .string x.f1, .int .i64 x.f2, .slice A3 n3 c3, .slice A4 n4 c4, .slice A5 n5 c5, .slice A6 n6 c6]] w (OPost w x) := by
  have hwb : Below w.heap.size w ((w.alloc (.cells #[.int .i64 x.f0, .string x.f1, .int .i64 x.f2, .slice A3 n3 c3, .slice A4 n4 c4, .slice A5 n5 c5, .slice A6 n6 c6] 46)).alloc (.cells #[.int .i64 0, .string ⟨#[]⟩, .int .i64 0, .slice none 0 0, .slice none 0 0, .slice none 0 0, .slice none 0 0] 46)) := bla (bla (Below.refl _ _) _) _
  obtain ⟨b1, hb1⟩ : ∃ b1, b1 = w.heap.size := ⟨_, rfl⟩
  obtain ⟨Wb, hWb⟩ : ∃ Wb : World, Wb = ((w.alloc (.cells #[.int .i64 x.f0, .string x.f1, .int .i64 x.f2, .slice A3 n3 c3, .slice A4 n4 c4, .slice A5 n5 c5, .slice A6 n6 c6] 46)).alloc (.cells #[.int .i64 0, .string ⟨#[]⟩, .int .i64 0, .slice none 0 0, .slice none 0 0, .slice none 0 0, .slice none 0 0] 46)) := ⟨_, rfl⟩
  have C0 := Aside0.mk (show Wb.heap[b1]? = some (.cells #[.int .i64 x.f0, .string x.f1, .int .i64 x.f2, .slice A3 n3 c3, .slice A4 n4 c4, .slice A5 n5 c5, .slice A6 n6 c6] 46 (0, 0)) ∧ Wb.heap[b1 + 1]? = some (.cells #[.int .i64 0, .string ⟨#[]⟩, .int .i64 0, .slice none 0 0, .slice none 0 0, .slice none 0 0, .slice none 0 0] 46 (0, 0)) from by
    rw [hWb, hb1]
    refine ⟨kla (blk_new _ _) _, ?_⟩
    have h := blk_new (w.alloc (.cells #[.int .i64 x.f0, .string x.f1, .int .i64 x.f2, .slice A3 n3 c3, .slice A4 n4 c4, .slice A5 n5 c5, .slice A6 n6 c6] 46)) (.cells #[.int .i64 0, .string ⟨#[]⟩, .int .i64 0, .slice none 0 0, .slice none 0 0, .slice none 0 0, .slice none 0 0] 46)
    rw [show (w.alloc (.cells #[.int .i64 x.f0, .string x.f1, .int .i64 x.f2, .slice A3 n3 c3, .slice A4 n4 c4, .slice A5 n5 c5, .slice A6 n6 c6] 46)).heap.size = w.heap.size + 1 by simp] at h
    exact h)
  rw [← hWb] at hwb
  replace h3 := Aside0.mk h3
  replace h4 := Aside0.mk h4
  replace h5 := Aside0.mk h5
  replace h6 := Aside0.mk h6
  have HW0 := Aside0.mk hwb
  have HW := Lib.hid hWb
  have HB := Lib.hid hb1
  clear hwb hWb hb1
  go_enter Try.func122, Try.ntmps122
  go_upto_region 1 with (fail)
  rw [← HW.out, ← HB.out]
  have k3 := (kcl C0.out.1 3).trans (show _ = some (.slice A3 n3 c3) from rfl)
  have kx3 := k3
  have f3 := kfz C0.out.1 3
  go_upto_region 2 with (first | ((with_reducible refine gate_dst (N := 3) rfl ?_); refine Kd.R_lit k35 _ 35 ?hg (N := 3) ?hd (xs := ([] : List S35)) (inner := []) (ok := fun _ => True) (okp := fun _ => True) ?hr ?hp (fun _ hk => hk) trivial (Below.refl _ _) (Nat.le_refl _) (by simp) ?_; (case hd => rfl); (case hg => rfl); (case hr => first | (go_simp; done) | (go_simp; rfl)); (case hp => exact (Reps.none _ _)); intro v3 y3 ho3 hb hg_ hnew_; clear hg_ hnew_; have kz3 := B.cell_keep hb k3; have HO3 := Aside0.mk ho3; have HB3 := Aside0.mk hb; clear ho3 hb k3) | ((with_reducible refine gate_builtin (b := .append) (xs := #[.tmp 3, .tmp 5]) rfl ?_); at_builtin; refine Kd.R_append_rows k35 (w0 := Wb) Wb.heap.size rfl (.tmp 3) (.tmp 5) 26 35 (.agg #[(.int .i64 0), (.string ⟨#[]⟩), (.int .i64 0)]) 32 rfl Try.underlying26 info35 rfl (by decide) (by omega) v3 [] x.f3 _ _ _ (fun _ => True) (fun _ => False) rfl rfl HO3.out (Kd.C_below (Kd.C_below h3.out HW0.out) HB3.out) (fun _ _ h => h) (fun _ h => h.elim) (fun _ _ => trivial) HB3.out HB3.out.size (by simp; omega) ?_; intro u3 t3 ho hb hg hat; rw [List.nil_append] at ho; obtain ⟨B3, m3, d3, rfl⟩ := sform ho; have ky3 := B.cell_keep hb kx3; have kf3 := kfz (kbw C0.out.1 hb) 3; have HR3 := Aside0.mk ho; have HT3 := Aside0.mk hb; clear ho hb hg hat kx3 kz3 f3))
  obtain ⟨V0, hV0⟩ : ∃ V0 : World, V0 = t3.setCell ⟨b1, 3, none⟩ (.slice B3 m3 d3) := ⟨_, rfl⟩
  rw [← hV0]
  obtain ⟨s1, s2, s3, s4⟩ := cp_step HB.out HW0.out C0.out.1 C0.out.2 HT3.out 3 HR3.out V0 hV0
  have C1 := Aside0.mk (show V0.heap[b1]? = some (.cells #[.int .i64 x.f0, .string x.f1, .int .i64 x.f2, .slice B3 m3 d3, .slice A4 n4 c4, .slice A5 n5 c5, .slice A6 n6 c6] 46 (0, 0)) ∧ V0.heap[b1 + 1]? = some (.cells #[.int .i64 0, .string ⟨#[]⟩, .int .i64 0, .slice none 0 0, .slice none 0 0, .slice none 0 0, .slice none 0 0] 46 (0, 0)) from ⟨by rw [hV0]; exact blk_put (kbw C0.out.1 HT3.out) 3 _ rfl, s2⟩)
  have HW1 := Aside0.mk s1
  have G3 := Aside0.mk s3
  clear s1 s2 s3 s4 hV0 HR3 HT3 HO3 HB3 ky3 kf3
  have k4 := (kcl C1.out.1 4).trans (show _ = some (.slice A4 n4 c4) from rfl)
  have kx4 := k4
  have f4 := kfz C1.out.1 4
  go_upto_region 3 with (first | ((with_reducible refine gate_dst (N := 8) rfl ?_); refine Kd.R_lit k35 _ 35 ?hg (N := 8) ?hd (xs := ([] : List S35)) (inner := []) (ok := fun _ => True) (okp := fun _ => True) ?hr ?hp (fun _ hk => hk) trivial (Below.refl _ _) (Nat.le_refl _) (by simp) ?_; (case hd => rfl); (case hg => rfl); (case hr => first | (go_simp; done) | (go_simp; rfl)); (case hp => exact (Reps.none _ _)); intro v4 y4 ho3 hb hg_ hnew_; clear hg_ hnew_; have kz4 := B.cell_keep hb k4; have HO4 := Aside0.mk ho3; have HB4 := Aside0.mk hb; clear ho3 hb k4) | ((with_reducible refine gate_builtin (b := .append) (xs := #[.tmp 8, .tmp 10]) rfl ?_); at_builtin; refine Kd.R_append_rows k35 (w0 := V0) V0.heap.size rfl (.tmp 8) (.tmp 10) 26 35 (.agg #[(.int .i64 0), (.string ⟨#[]⟩), (.int .i64 0)]) 32 rfl Try.underlying26 info35 rfl (by decide) (by omega) v4 [] x.f4 _ _ _ (fun _ => True) (fun _ => False) rfl rfl HO4.out (Kd.C_below (Kd.C_below h4.out HW1.out) HB4.out) (fun _ _ h => h) (fun _ h => h.elim) (fun _ _ => trivial) HB4.out HB4.out.size (by simp; omega) ?_; intro u4 t4 ho hb hg hat; rw [List.nil_append] at ho; obtain ⟨B4, m4, d4, rfl⟩ := sform ho; have ky4 := B.cell_keep hb kx4; have kf4 := kfz (kbw C1.out.1 hb) 4; have HR4 := Aside0.mk ho; have HT4 := Aside0.mk hb; clear ho hb hg hat kx4 kz4 f4))
  obtain ⟨V1, hV1⟩ : ∃ V1 : World, V1 = t4.setCell ⟨b1, 4, none⟩ (.slice B4 m4 d4) := ⟨_, rfl⟩
  rw [← hV1]
  obtain ⟨s1, s2, s3, s4⟩ := cp_step HB.out HW1.out C1.out.1 C1.out.2 HT4.out 4 HR4.out V1 hV1
  have C2 := Aside0.mk (show V1.heap[b1]? = some (.cells #[.int .i64 x.f0, .string x.f1, .int .i64 x.f2, .slice B3 m3 d3, .slice B4 m4 d4, .slice A5 n5 c5, .slice A6 n6 c6] 46 (0, 0)) ∧ V1.heap[b1 + 1]? = some (.cells #[.int .i64 0, .string ⟨#[]⟩, .int .i64 0, .slice none 0 0, .slice none 0 0, .slice none 0 0, .slice none 0 0] 46 (0, 0)) from ⟨by rw [hV1]; exact blk_put (kbw C1.out.1 HT4.out) 4 _ rfl, s2⟩)
  have HW2 := Aside0.mk s1
  have G4 := Aside0.mk s3
  replace G3 := Aside0.mk (s4 G3.out)
  clear s1 s2 s3 s4 hV1 HR4 HT4 HO4 HB4 ky4 kf4 C1 HW1
  have k6 := (kcl C2.out.1 6).trans (show _ = some (.slice A6 n6 c6) from rfl)
  have kx6 := k6
  have f6 := kfz C2.out.1 6
  go_upto_region 4 with (first | ((with_reducible refine gate_dst (N := 13) rfl ?_); refine Kd.R_lit k35 _ 35 ?hg (N := 13) ?hd (xs := ([] : List S35)) (inner := []) (ok := fun _ => True) (okp := fun _ => True) ?hr ?hp (fun _ hk => hk) trivial (Below.refl _ _) (Nat.le_refl _) (by simp) ?_; (case hd => rfl); (case hg => rfl); (case hr => first | (go_simp; done) | (go_simp; rfl)); (case hp => exact (Reps.none _ _)); intro v6 y6 ho3 hb hg_ hnew_; clear hg_ hnew_; have kz6 := B.cell_keep hb k6; have HO6 := Aside0.mk ho3; have HB6 := Aside0.mk hb; clear ho3 hb k6) | ((with_reducible refine gate_builtin (b := .append) (xs := #[.tmp 13, .tmp 15]) rfl ?_); at_builtin; refine Kd.R_append_rows k35 (w0 := V1) V1.heap.size rfl (.tmp 13) (.tmp 15) 26 35 (.agg #[(.int .i64 0), (.string ⟨#[]⟩), (.int .i64 0)]) 32 rfl Try.underlying26 info35 rfl (by decide) (by omega) v6 [] x.f6 _ _ _ (fun _ => True) (fun _ => False) rfl rfl HO6.out (Kd.C_below (Kd.C_below h6.out HW2.out) HB6.out) (fun _ _ h => h) (fun _ h => h.elim) (fun _ _ => trivial) HB6.out HB6.out.size (by simp; omega) ?_; intro u6 t6 ho hb hg hat; rw [List.nil_append] at ho; obtain ⟨B6, m6, d6, rfl⟩ := sform ho; have ky6 := B.cell_keep hb kx6; have kf6 := kfz (kbw C2.out.1 hb) 6; have HR6 := Aside0.mk ho; have HT6 := Aside0.mk hb; clear ho hb hg hat kx6 kz6 f6))
  obtain ⟨V2, hV2⟩ : ∃ V2 : World, V2 = t6.setCell ⟨b1, 6, none⟩ (.slice B6 m6 d6) := ⟨_, rfl⟩
  rw [← hV2]
  obtain ⟨s1, s2, s3, s4⟩ := cp_step HB.out HW2.out C2.out.1 C2.out.2 HT6.out 6 HR6.out V2 hV2
  have C3 := Aside0.mk (show V2.heap[b1]? = some (.cells #[.int .i64 x.f0, .string x.f1, .int .i64 x.f2, .slice B3 m3 d3, .slice B4 m4 d4, .slice A5 n5 c5, .slice B6 m6 d6] 46 (0, 0)) ∧ V2.heap[b1 + 1]? = some (.cells #[.int .i64 0, .string ⟨#[]⟩, .int .i64 0, .slice none 0 0, .slice none 0 0, .slice none 0 0, .slice none 0 0] 46 (0, 0)) from ⟨by rw [hV2]; exact blk_put (kbw C2.out.1 HT6.out) 6 _ rfl, s2⟩)
  have HW3 := Aside0.mk s1
  have G6 := Aside0.mk s3
  replace G3 := Aside0.mk (s4 G3.out)
  replace G4 := Aside0.mk (s4 G4.out)
  clear s1 s2 s3 s4 hV2 HR6 HT6 HO6 HB6 ky6 kf6 C2 HW2
  have k5 := (kcl C3.out.1 5).trans (show _ = some (.slice A5 n5 c5) from rfl)
  have kx5 := k5
  have f5 := kfz C3.out.1 5
  go_upto_region 5 with (first | ((with_reducible refine gate_dst (N := 18) rfl ?_); refine Kd.R_lit Kd.string _ 9 ?hg (N := 18) ?hd (xs := ([] : List ByteArray)) (inner := []) (ok := fun _ => True) (okp := fun _ => True) ?hr ?hp (fun _ hk => hk) trivial (Below.refl _ _) (Nat.le_refl _) (by simp) ?_; (case hd => rfl); (case hg => rfl); (case hr => first | (go_simp; done) | (go_simp; rfl)); (case hp => exact (Reps.none _ _)); intro v5 y5 ho3 hb hg_ hnew_; clear hg_ hnew_; have kz5 := B.cell_keep hb k5; have HO5 := Aside0.mk ho3; have HB5 := Aside0.mk hb; clear ho3 hb k5) | ((with_reducible refine gate_builtin (b := .append) (xs := #[.tmp 18, .tmp 20]) rfl ?_); at_builtin; refine Kd.R_append_rows Kd.string (w0 := V2) V2.heap.size rfl (.tmp 18) (.tmp 20) 44 9 (.string ⟨#[]⟩) 16 rfl Try.underlying44 info9 rfl (by decide) (by omega) v5 [] x.f5 _ _ _ (fun _ => True) (fun _ => False) rfl rfl HO5.out (Kd.C_below (Kd.C_below h5.out HW3.out) HB5.out) (fun _ _ h => h) (fun _ h => h.elim) (fun _ _ => trivial) HB5.out HB5.out.size (by simp; omega) ?_; intro u5 t5 ho hb hg hat; rw [List.nil_append] at ho; obtain ⟨B5, m5, d5, rfl⟩ := sform ho; have ky5 := B.cell_keep hb kx5; have kf5 := kfz (kbw C3.out.1 hb) 5; have HR5 := Aside0.mk ho; have HT5 := Aside0.mk hb; clear ho hb hg hat kx5 kz5 f5))
  obtain ⟨V3, hV3⟩ : ∃ V3 : World, V3 = t5.setCell ⟨b1, 5, none⟩ (.slice B5 m5 d5) := ⟨_, rfl⟩
  rw [← hV3]
  obtain ⟨s1, s2, s3, s4⟩ := cp_step HB.out HW3.out C3.out.1 C3.out.2 HT5.out 5 HR5.out V3 hV3
  have C4 := Aside0.mk (show V3.heap[b1]? = some (.cells #[.int .i64 x.f0, .string x.f1, .int .i64 x.f2, .slice B3 m3 d3, .slice B4 m4 d4, .slice B5 m5 d5, .slice B6 m6 d6] 46 (0, 0)) ∧ V3.heap[b1 + 1]? = some (.cells #[.int .i64 0, .string ⟨#[]⟩, .int .i64 0, .slice none 0 0, .slice none 0 0, .slice none 0 0, .slice none 0 0] 46 (0, 0)) from ⟨by rw [hV3]; exact blk_put (kbw C3.out.1 HT5.out) 5 _ rfl, s2⟩)
  have HW4 := Aside0.mk s1
  have G5 := Aside0.mk s3
  replace G3 := Aside0.mk (s4 G3.out)
  replace G4 := Aside0.mk (s4 G4.out)
  replace G6 := Aside0.mk (s4 G6.out)
  clear s1 s2 s3 s4 hV3 HR5 HT5 HO5 HB5 ky5 kf5 C3 HW3
  have p10 := (kcl C4.out.1 0).trans (show _ = some (.int .i64 x.f0) from rfl)
  have p11 := (kcl C4.out.1 1).trans (show _ = some (.string x.f1) from rfl)
  have p12 := (kcl C4.out.1 2).trans (show _ = some (.int .i64 x.f2) from rfl)
  have p13 := (kcl C4.out.1 3).trans (show _ = some (.slice B3 m3 d3) from rfl)
  have p14 := (kcl C4.out.1 4).trans (show _ = some (.slice B4 m4 d4) from rfl)
  have p15 := (kcl C4.out.1 5).trans (show _ = some (.slice B5 m5 d5) from rfl)
  have p16 := (kcl C4.out.1 6).trans (show _ = some (.slice B6 m6 d6) from rfl)
  have p20 := (kcl C4.out.2 0).trans (show _ = some (.int .i64 0) from rfl)
  have q20 := kfz C4.out.2 0
  have p21 := (kcl C4.out.2 1).trans (show _ = some (.string ⟨#[]⟩) from rfl)
  have q21 := kfz C4.out.2 1
  have p22 := (kcl C4.out.2 2).trans (show _ = some (.int .i64 0) from rfl)
  have q22 := kfz C4.out.2 2
  have p23 := (kcl C4.out.2 3).trans (show _ = some (.slice none 0 0) from rfl)
  have q23 := kfz C4.out.2 3
  have p24 := (kcl C4.out.2 4).trans (show _ = some (.slice none 0 0) from rfl)
  have q24 := kfz C4.out.2 4
  have p25 := (kcl C4.out.2 5).trans (show _ = some (.slice none 0 0) from rfl)
  have q25 := kfz C4.out.2 5
  have p26 := (kcl C4.out.2 6).trans (show _ = some (.slice none 0 0) from rfl)
  have q26 := kfz C4.out.2 6
  go_wp2_with fail
  refine bodyPost_ret (v := .agg #[.int .i64 x.f0, .string x.f1, .int .i64 x.f2, .slice B3 m3 d3, .slice B4 m4 d4, .slice B5 m5 d5, .slice B6 m6 d6]) (B.res_c rfl _ _ (b1 + 1) 46 _ (0, 0) _ rfl (put7 C4.out.2 _ _ _ _ _ _ _) Try.underlying46 rfl rfl) rfl ⟨_, _, _, _, rfl, ?_, ?_, ?_, ?_, ?_⟩
  · exact Kd.R_mono (far7 G3.out (fun _ hk => hk.2) _ _ _ _ _ _ _) (fun _ _ => trivial)
  · exact Kd.R_mono (far7 G4.out (fun _ hk => hk.2) _ _ _ _ _ _ _) (fun _ _ => trivial)
  · exact Kd.R_mono (far7 G5.out (fun _ hk => hk.2) _ _ _ _ _ _ _) (fun _ _ => trivial)
  · exact Kd.R_mono (far7 G6.out (fun _ hk => hk.2) _ _ _ _ _ _ _) (fun _ _ => trivial)
  · exact below7 HW4.out (by have := HB.out; omega) _ _ _ _ _ _ _
end Go.Proofs.Ytgddblpgbkgpcaa.PR
namespace Go.Proofs.Ytgddblpgbkgpcaa.PR
set_option linter.unusedVariables false
set_option linter.unusedSimpArgs false
open Go.RowKit Go.Proofs.YtgddblpgbkgpcaaW.PrintWords Go.Proofs.YtgddblpgbkgpcaaW.PrintLast Go.Proofs.YtgddblpgbkgpcaaW.PrintMore
set_option linter.unusedVariables false
set_option linter.unusedSimpArgs false
set_option maxRecDepth 100000 in
set_option maxHeartbeats 40000000 in
theorem copyA_w (x : S46) (A3 : Option Addr) (n3 c3 : Nat) (A4 : Option Addr) (n4 c4 : Nat) (A5 : Option Addr) (n5 c5 : Nat) (A6 : Option Addr) (n6 c6 : Nat) (w : World)
    (h3 : Kd.C k35 w A3 n3 x.f3) (h4 : Kd.C k35 w A4 n4 x.f4) (h5 : Kd.C Kd.string w A5 n5 x.f5) (h6 : Kd.C k35 w A6 n6 x.f6) (l3 : n3 ≤ 1000) (l4 : n4 ≤ 1000) (l5 : n5 ≤ 1000) (l6 : n6 ≤ 1000) :
    Calls Try.prog 122 #[.agg #[.int .i64 x.f0, .string x.f1, .int .i64 x.f2, .slice A3 n3 c3, .slice A4 n4 c4, .slice A5 n5 c5, .slice A6 n6 c6]] w (OPostA w x) := by
  have hwb : Below w.heap.size w ((w.alloc (.cells #[.int .i64 x.f0, .string x.f1, .int .i64 x.f2, .slice A3 n3 c3, .slice A4 n4 c4, .slice A5 n5 c5, .slice A6 n6 c6] 46)).alloc (.cells #[.int .i64 0, .string ⟨#[]⟩, .int .i64 0, .slice none 0 0, .slice none 0 0, .slice none 0 0, .slice none 0 0] 46)) := bla (bla (Below.refl _ _) _) _
  obtain ⟨b1, hb1⟩ : ∃ b1, b1 = w.heap.size := ⟨_, rfl⟩
  obtain ⟨Wb, hWb⟩ : ∃ Wb : World, Wb = ((w.alloc (.cells #[.int .i64 x.f0, .string x.f1, .int .i64 x.f2, .slice A3 n3 c3, .slice A4 n4 c4, .slice A5 n5 c5, .slice A6 n6 c6] 46)).alloc (.cells #[.int .i64 0, .string ⟨#[]⟩, .int .i64 0, .slice none 0 0, .slice none 0 0, .slice none 0 0, .slice none 0 0] 46)) := ⟨_, rfl⟩
  have C0 := Aside0.mk (show Wb.heap[b1]? = some (.cells #[.int .i64 x.f0, .string x.f1, .int .i64 x.f2, .slice A3 n3 c3, .slice A4 n4 c4, .slice A5 n5 c5, .slice A6 n6 c6] 46 (0, 0)) ∧ Wb.heap[b1 + 1]? = some (.cells #[.int .i64 0, .string ⟨#[]⟩, .int .i64 0, .slice none 0 0, .slice none 0 0, .slice none 0 0, .slice none 0 0] 46 (0, 0)) from by
    rw [hWb, hb1]
    refine ⟨kla (blk_new _ _) _, ?_⟩
    have h := blk_new (w.alloc (.cells #[.int .i64 x.f0, .string x.f1, .int .i64 x.f2, .slice A3 n3 c3, .slice A4 n4 c4, .slice A5 n5 c5, .slice A6 n6 c6] 46)) (.cells #[.int .i64 0, .string ⟨#[]⟩, .int .i64 0, .slice none 0 0, .slice none 0 0, .slice none 0 0, .slice none 0 0] 46)
    rw [show (w.alloc (.cells #[.int .i64 x.f0, .string x.f1, .int .i64 x.f2, .slice A3 n3 c3, .slice A4 n4 c4, .slice A5 n5 c5, .slice A6 n6 c6] 46)).heap.size = w.heap.size + 1 by simp] at h
    exact h)
  rw [← hWb] at hwb
  replace h3 := Aside0.mk h3
  replace h4 := Aside0.mk h4
  replace h5 := Aside0.mk h5
  replace h6 := Aside0.mk h6
  have HW0 := Aside0.mk hwb
  have HW := Lib.hid hWb
  have HB := Lib.hid hb1
  clear hwb hWb hb1
  go_enter Try.func122, Try.ntmps122
  go_upto_region 1 with (fail)
  rw [← HW.out, ← HB.out]
  have k3 := (kcl C0.out.1 3).trans (show _ = some (.slice A3 n3 c3) from rfl)
  have kx3 := k3
  have f3 := kfz C0.out.1 3
  go_upto_region 2 with (first | ((with_reducible refine gate_dst (N := 3) rfl ?_); refine Kd.R_lit k35 _ 35 ?hg (N := 3) ?hd (xs := ([] : List S35)) (inner := []) (ok := fun _ => True) (okp := fun _ => True) ?hr ?hp (fun _ hk => hk) trivial (Below.refl _ _) (Nat.le_refl _) (by simp) ?_; (case hd => rfl); (case hg => rfl); (case hr => first | (go_simp; done) | (go_simp; rfl)); (case hp => exact (Reps.none _ _)); intro v3 y3 ho3 hb hg_ hnew_; clear hg_ hnew_; have kz3 := B.cell_keep hb k3; have HO3 := Aside0.mk ho3; have HB3 := Aside0.mk hb; clear ho3 hb k3) | ((with_reducible refine gate_builtin (b := .append) (xs := #[.tmp 3, .tmp 5]) rfl ?_); at_builtin; refine Kd.R_append_rows k35 (w0 := Wb) Wb.heap.size rfl (.tmp 3) (.tmp 5) 26 35 (.agg #[(.int .i64 0), (.string ⟨#[]⟩), (.int .i64 0)]) 32 rfl Try.underlying26 info35 rfl (by decide) (by omega) v3 [] x.f3 _ _ _ (fun _ => True) (fun _ => False) rfl rfl HO3.out (Kd.C_below (Kd.C_below h3.out HW0.out) HB3.out) (fun _ _ h => h) (fun _ h => h.elim) (fun _ _ => trivial) HB3.out HB3.out.size (by simp; omega) ?_; intro u3 t3 ho hb hg hat; rw [List.nil_append] at ho; obtain ⟨B3, m3, d3, rfl⟩ := sform ho; have ky3 := B.cell_keep hb kx3; have kf3 := kfz (kbw C0.out.1 hb) 3; have HR3 := Aside0.mk ho; have HT3 := Aside0.mk hb; clear ho hb hg hat kx3 kz3 f3))
  obtain ⟨V0, hV0⟩ : ∃ V0 : World, V0 = t3.setCell ⟨b1, 3, none⟩ (.slice B3 m3 d3) := ⟨_, rfl⟩
  rw [← hV0]
  obtain ⟨s1, s2, s3, s4⟩ := cp_step HB.out HW0.out C0.out.1 C0.out.2 HT3.out 3 HR3.out V0 hV0
  have C1 := Aside0.mk (show V0.heap[b1]? = some (.cells #[.int .i64 x.f0, .string x.f1, .int .i64 x.f2, .slice B3 m3 d3, .slice A4 n4 c4, .slice A5 n5 c5, .slice A6 n6 c6] 46 (0, 0)) ∧ V0.heap[b1 + 1]? = some (.cells #[.int .i64 0, .string ⟨#[]⟩, .int .i64 0, .slice none 0 0, .slice none 0 0, .slice none 0 0, .slice none 0 0] 46 (0, 0)) from ⟨by rw [hV0]; exact blk_put (kbw C0.out.1 HT3.out) 3 _ rfl, s2⟩)
  have HW1 := Aside0.mk s1
  have G3 := Aside0.mk s3
  clear s1 s2 s3 s4 hV0 HR3 HT3 HO3 HB3 ky3 kf3
  have k4 := (kcl C1.out.1 4).trans (show _ = some (.slice A4 n4 c4) from rfl)
  have kx4 := k4
  have f4 := kfz C1.out.1 4
  go_upto_region 3 with (first | ((with_reducible refine gate_dst (N := 8) rfl ?_); refine Kd.R_lit k35 _ 35 ?hg (N := 8) ?hd (xs := ([] : List S35)) (inner := []) (ok := fun _ => True) (okp := fun _ => True) ?hr ?hp (fun _ hk => hk) trivial (Below.refl _ _) (Nat.le_refl _) (by simp) ?_; (case hd => rfl); (case hg => rfl); (case hr => first | (go_simp; done) | (go_simp; rfl)); (case hp => exact (Reps.none _ _)); intro v4 y4 ho3 hb hg_ hnew_; clear hg_ hnew_; have kz4 := B.cell_keep hb k4; have HO4 := Aside0.mk ho3; have HB4 := Aside0.mk hb; clear ho3 hb k4) | ((with_reducible refine gate_builtin (b := .append) (xs := #[.tmp 8, .tmp 10]) rfl ?_); at_builtin; refine Kd.R_append_rows k35 (w0 := V0) V0.heap.size rfl (.tmp 8) (.tmp 10) 26 35 (.agg #[(.int .i64 0), (.string ⟨#[]⟩), (.int .i64 0)]) 32 rfl Try.underlying26 info35 rfl (by decide) (by omega) v4 [] x.f4 _ _ _ (fun _ => True) (fun _ => False) rfl rfl HO4.out (Kd.C_below (Kd.C_below h4.out HW1.out) HB4.out) (fun _ _ h => h) (fun _ h => h.elim) (fun _ _ => trivial) HB4.out HB4.out.size (by simp; omega) ?_; intro u4 t4 ho hb hg hat; rw [List.nil_append] at ho; obtain ⟨B4, m4, d4, rfl⟩ := sform ho; have ky4 := B.cell_keep hb kx4; have kf4 := kfz (kbw C1.out.1 hb) 4; have HR4 := Aside0.mk ho; have HT4 := Aside0.mk hb; clear ho hb hg hat kx4 kz4 f4))
  obtain ⟨V1, hV1⟩ : ∃ V1 : World, V1 = t4.setCell ⟨b1, 4, none⟩ (.slice B4 m4 d4) := ⟨_, rfl⟩
  rw [← hV1]
  have X34 := Aside0.mk (ap_lt G3.out HR4.out (Nat.le_refl _))
  obtain ⟨s1, s2, s3, s4⟩ := cp_step HB.out HW1.out C1.out.1 C1.out.2 HT4.out 4 HR4.out V1 hV1
  have C2 := Aside0.mk (show V1.heap[b1]? = some (.cells #[.int .i64 x.f0, .string x.f1, .int .i64 x.f2, .slice B3 m3 d3, .slice B4 m4 d4, .slice A5 n5 c5, .slice A6 n6 c6] 46 (0, 0)) ∧ V1.heap[b1 + 1]? = some (.cells #[.int .i64 0, .string ⟨#[]⟩, .int .i64 0, .slice none 0 0, .slice none 0 0, .slice none 0 0, .slice none 0 0] 46 (0, 0)) from ⟨by rw [hV1]; exact blk_put (kbw C1.out.1 HT4.out) 4 _ rfl, s2⟩)
  have HW2 := Aside0.mk s1
  have G4 := Aside0.mk s3
  replace G3 := Aside0.mk (s4 G3.out)
  clear s1 s2 s3 s4 hV1 HR4 HT4 HO4 HB4 ky4 kf4 C1 HW1
  have k6 := (kcl C2.out.1 6).trans (show _ = some (.slice A6 n6 c6) from rfl)
  have kx6 := k6
  have f6 := kfz C2.out.1 6
  go_upto_region 4 with (first | ((with_reducible refine gate_dst (N := 13) rfl ?_); refine Kd.R_lit k35 _ 35 ?hg (N := 13) ?hd (xs := ([] : List S35)) (inner := []) (ok := fun _ => True) (okp := fun _ => True) ?hr ?hp (fun _ hk => hk) trivial (Below.refl _ _) (Nat.le_refl _) (by simp) ?_; (case hd => rfl); (case hg => rfl); (case hr => first | (go_simp; done) | (go_simp; rfl)); (case hp => exact (Reps.none _ _)); intro v6 y6 ho3 hb hg_ hnew_; clear hg_ hnew_; have kz6 := B.cell_keep hb k6; have HO6 := Aside0.mk ho3; have HB6 := Aside0.mk hb; clear ho3 hb k6) | ((with_reducible refine gate_builtin (b := .append) (xs := #[.tmp 13, .tmp 15]) rfl ?_); at_builtin; refine Kd.R_append_rows k35 (w0 := V1) V1.heap.size rfl (.tmp 13) (.tmp 15) 26 35 (.agg #[(.int .i64 0), (.string ⟨#[]⟩), (.int .i64 0)]) 32 rfl Try.underlying26 info35 rfl (by decide) (by omega) v6 [] x.f6 _ _ _ (fun _ => True) (fun _ => False) rfl rfl HO6.out (Kd.C_below (Kd.C_below h6.out HW2.out) HB6.out) (fun _ _ h => h) (fun _ h => h.elim) (fun _ _ => trivial) HB6.out HB6.out.size (by simp; omega) ?_; intro u6 t6 ho hb hg hat; rw [List.nil_append] at ho; obtain ⟨B6, m6, d6, rfl⟩ := sform ho; have ky6 := B.cell_keep hb kx6; have kf6 := kfz (kbw C2.out.1 hb) 6; have HR6 := Aside0.mk ho; have HT6 := Aside0.mk hb; clear ho hb hg hat kx6 kz6 f6))
  obtain ⟨V2, hV2⟩ : ∃ V2 : World, V2 = t6.setCell ⟨b1, 6, none⟩ (.slice B6 m6 d6) := ⟨_, rfl⟩
  rw [← hV2]
  have X36 := Aside0.mk (ap_lt G3.out HR6.out (Nat.le_refl _))
  have X46 := Aside0.mk (ap_lt G4.out HR6.out (Nat.le_refl _))
  obtain ⟨s1, s2, s3, s4⟩ := cp_step HB.out HW2.out C2.out.1 C2.out.2 HT6.out 6 HR6.out V2 hV2
  have C3 := Aside0.mk (show V2.heap[b1]? = some (.cells #[.int .i64 x.f0, .string x.f1, .int .i64 x.f2, .slice B3 m3 d3, .slice B4 m4 d4, .slice A5 n5 c5, .slice B6 m6 d6] 46 (0, 0)) ∧ V2.heap[b1 + 1]? = some (.cells #[.int .i64 0, .string ⟨#[]⟩, .int .i64 0, .slice none 0 0, .slice none 0 0, .slice none 0 0, .slice none 0 0] 46 (0, 0)) from ⟨by rw [hV2]; exact blk_put (kbw C2.out.1 HT6.out) 6 _ rfl, s2⟩)
  have HW3 := Aside0.mk s1
  have G6 := Aside0.mk s3
  replace G3 := Aside0.mk (s4 G3.out)
  replace G4 := Aside0.mk (s4 G4.out)
  clear s1 s2 s3 s4 hV2 HR6 HT6 HO6 HB6 ky6 kf6 C2 HW2
  have k5 := (kcl C3.out.1 5).trans (show _ = some (.slice A5 n5 c5) from rfl)
  have kx5 := k5
  have f5 := kfz C3.out.1 5
  go_upto_region 5 with (first | ((with_reducible refine gate_dst (N := 18) rfl ?_); refine Kd.R_lit Kd.string _ 9 ?hg (N := 18) ?hd (xs := ([] : List ByteArray)) (inner := []) (ok := fun _ => True) (okp := fun _ => True) ?hr ?hp (fun _ hk => hk) trivial (Below.refl _ _) (Nat.le_refl _) (by simp) ?_; (case hd => rfl); (case hg => rfl); (case hr => first | (go_simp; done) | (go_simp; rfl)); (case hp => exact (Reps.none _ _)); intro v5 y5 ho3 hb hg_ hnew_; clear hg_ hnew_; have kz5 := B.cell_keep hb k5; have HO5 := Aside0.mk ho3; have HB5 := Aside0.mk hb; clear ho3 hb k5) | ((with_reducible refine gate_builtin (b := .append) (xs := #[.tmp 18, .tmp 20]) rfl ?_); at_builtin; refine Kd.R_append_rows Kd.string (w0 := V2) V2.heap.size rfl (.tmp 18) (.tmp 20) 44 9 (.string ⟨#[]⟩) 16 rfl Try.underlying44 info9 rfl (by decide) (by omega) v5 [] x.f5 _ _ _ (fun _ => True) (fun _ => False) rfl rfl HO5.out (Kd.C_below (Kd.C_below h5.out HW3.out) HB5.out) (fun _ _ h => h) (fun _ h => h.elim) (fun _ _ => trivial) HB5.out HB5.out.size (by simp; omega) ?_; intro u5 t5 ho hb hg hat; rw [List.nil_append] at ho; obtain ⟨B5, m5, d5, rfl⟩ := sform ho; have ky5 := B.cell_keep hb kx5; have kf5 := kfz (kbw C3.out.1 hb) 5; have HR5 := Aside0.mk ho; have HT5 := Aside0.mk hb; clear ho hb hg hat kx5 kz5 f5))
  obtain ⟨V3, hV3⟩ : ∃ V3 : World, V3 = t5.setCell ⟨b1, 5, none⟩ (.slice B5 m5 d5) := ⟨_, rfl⟩
  rw [← hV3]
  have X35 := Aside0.mk (ap_lt G3.out HR5.out (Nat.le_refl _))
  have X45 := Aside0.mk (ap_lt G4.out HR5.out (Nat.le_refl _))
  have X65 := Aside0.mk (ap_lt G6.out HR5.out (Nat.le_refl _))
  obtain ⟨s1, s2, s3, s4⟩ := cp_step HB.out HW3.out C3.out.1 C3.out.2 HT5.out 5 HR5.out V3 hV3
  have C4 := Aside0.mk (show V3.heap[b1]? = some (.cells #[.int .i64 x.f0, .string x.f1, .int .i64 x.f2, .slice B3 m3 d3, .slice B4 m4 d4, .slice B5 m5 d5, .slice B6 m6 d6] 46 (0, 0)) ∧ V3.heap[b1 + 1]? = some (.cells #[.int .i64 0, .string ⟨#[]⟩, .int .i64 0, .slice none 0 0, .slice none 0 0, .slice none 0 0, .slice none 0 0] 46 (0, 0)) from ⟨by rw [hV3]; exact blk_put (kbw C3.out.1 HT5.out) 5 _ rfl, s2⟩)
  have HW4 := Aside0.mk s1
  have G5 := Aside0.mk s3
  replace G3 := Aside0.mk (s4 G3.out)
  replace G4 := Aside0.mk (s4 G4.out)
  replace G6 := Aside0.mk (s4 G6.out)
  clear s1 s2 s3 s4 hV3 HR5 HT5 HO5 HB5 ky5 kf5 C3 HW3
  have p10 := (kcl C4.out.1 0).trans (show _ = some (.int .i64 x.f0) from rfl)
  have p11 := (kcl C4.out.1 1).trans (show _ = some (.string x.f1) from rfl)
  have p12 := (kcl C4.out.1 2).trans (show _ = some (.int .i64 x.f2) from rfl)
  have p13 := (kcl C4.out.1 3).trans (show _ = some (.slice B3 m3 d3) from rfl)
  have p14 := (kcl C4.out.1 4).trans (show _ = some (.slice B4 m4 d4) from rfl)
  have p15 := (kcl C4.out.1 5).trans (show _ = some (.slice B5 m5 d5) from rfl)
  have p16 := (kcl C4.out.1 6).trans (show _ = some (.slice B6 m6 d6) from rfl)
  have p20 := (kcl C4.out.2 0).trans (show _ = some (.int .i64 0) from rfl)
  have q20 := kfz C4.out.2 0
  have p21 := (kcl C4.out.2 1).trans (show _ = some (.string ⟨#[]⟩) from rfl)
  have q21 := kfz C4.out.2 1
  have p22 := (kcl C4.out.2 2).trans (show _ = some (.int .i64 0) from rfl)
  have q22 := kfz C4.out.2 2
  have p23 := (kcl C4.out.2 3).trans (show _ = some (.slice none 0 0) from rfl)
  have q23 := kfz C4.out.2 3
  have p24 := (kcl C4.out.2 4).trans (show _ = some (.slice none 0 0) from rfl)
  have q24 := kfz C4.out.2 4
  have p25 := (kcl C4.out.2 5).trans (show _ = some (.slice none 0 0) from rfl)
  have q25 := kfz C4.out.2 5
  have p26 := (kcl C4.out.2 6).trans (show _ = some (.slice none 0 0) from rfl)
  have q26 := kfz C4.out.2 6
  go_wp2_with fail
  refine bodyPost_ret (v := .agg #[.int .i64 x.f0, .string x.f1, .int .i64 x.f2, .slice B3 m3 d3, .slice B4 m4 d4, .slice B5 m5 d5, .slice B6 m6 d6]) (B.res_c rfl _ _ (b1 + 1) 46 _ (0, 0) _ rfl (put7 C4.out.2 _ _ _ _ _ _ _) Try.underlying46 rfl rfl) rfl ⟨_, _, _, _, rfl, ?_, ?_, ?_, ?_, ?_, ⟨X34.out, X35.out, X36.out, X45.out, X46.out, X65.out.symm⟩⟩
  · exact Kd.R_mono (far7 G3.out (fun _ hk => hk.2) _ _ _ _ _ _ _) (fun _ _ => trivial)
  · exact Kd.R_mono (far7 G4.out (fun _ hk => hk.2) _ _ _ _ _ _ _) (fun _ _ => trivial)
  · exact Kd.R_mono (far7 G5.out (fun _ hk => hk.2) _ _ _ _ _ _ _) (fun _ _ => trivial)
  · exact Kd.R_mono (far7 G6.out (fun _ hk => hk.2) _ _ _ _ _ _ _) (fun _ _ => trivial)
  · exact below7 HW4.out (by have := HB.out; omega) _ _ _ _ _ _ _
end Go.Proofs.Ytgddblpgbkgpcaa.PR
namespace Go.Proofs.Ytgddblpgbkgpcaa.PR
set_option linter.unusedVariables false
set_option linter.unusedSimpArgs false
open Go.RowKit Go.Proofs.YtgddblpgbkgpcaaW.PrintWords Go.Proofs.YtgddblpgbkgpcaaW.PrintLast Go.Proofs.YtgddblpgbkgpcaaW.PrintMore
set_option linter.unusedVariables false
set_option linter.unusedSimpArgs false
structure S3 (w X : World) (b : Nat) (v k x : S35) : Prop where
  v0 : X.cell? ⟨b, 0, none⟩ = some (.int .i64 v.f0)
  v1 : X.cell? ⟨b, 1, none⟩ = some (.string v.f1)
  v2 : X.cell? ⟨b, 2, none⟩ = some (.int .i64 v.f2)
  k0 : X.cell? ⟨b + 1, 0, none⟩ = some (.int .i64 k.f0)
  k1 : X.cell? ⟨b + 1, 1, none⟩ = some (.string k.f1)
  k2 : X.cell? ⟨b + 1, 2, none⟩ = some (.int .i64 k.f2)
  x0 : X.cell? ⟨b + 1 + 1, 0, none⟩ = some (.int .i64 x.f0)
  x1 : X.cell? ⟨b + 1 + 1, 1, none⟩ = some (.string x.f1)
  x2 : X.cell? ⟨b + 1 + 1, 2, none⟩ = some (.int .i64 x.f2)
  bl : Below w.heap.size w X
theorem S3.below {w X Y : World} {b : Nat} {v k x : S35} (h : S3 w X b v k x) (hb : Below X.heap.size X Y) : S3 w Y b v k x :=
  ⟨B.cell_keep hb h.v0, B.cell_keep hb h.v1, B.cell_keep hb h.v2, B.cell_keep hb h.k0, B.cell_keep hb h.k1, B.cell_keep hb h.k2, B.cell_keep hb h.x0, B.cell_keep hb h.x1, B.cell_keep hb h.x2, bst h.bl hb⟩
theorem s3_new (w : World) (v k x : S35) (W : World) (hW : W = ((w.alloc (.cells #[.int .i64 v.f0, .string v.f1, .int .i64 v.f2] 35)).alloc (.cells #[.int .i64 k.f0, .string k.f1, .int .i64 k.f2] 35)).alloc (.cells #[.int .i64 x.f0, .string x.f1, .int .i64 x.f2] 35)) : S3 w W w.heap.size v k x := by
  have e1 := blk_new (w.alloc (.cells #[.int .i64 v.f0, .string v.f1, .int .i64 v.f2] 35)) (.cells #[.int .i64 k.f0, .string k.f1, .int .i64 k.f2] 35)
  have e2 := blk_new ((w.alloc (.cells #[.int .i64 v.f0, .string v.f1, .int .i64 v.f2] 35)).alloc (.cells #[.int .i64 k.f0, .string k.f1, .int .i64 k.f2] 35)) (.cells #[.int .i64 x.f0, .string x.f1, .int .i64 x.f2] 35)
  rw [World.size_alloc] at e1 e2
  rw [World.size_alloc] at e2
  have h1 : W.heap[w.heap.size]? = some (.cells #[.int .i64 v.f0, .string v.f1, .int .i64 v.f2] 35 (0, 0)) := by rw [hW]; exact kla (kla (blk_new _ _) _) _
  have h2 : W.heap[w.heap.size + 1]? = some (.cells #[.int .i64 k.f0, .string k.f1, .int .i64 k.f2] 35 (0, 0)) := by rw [hW]; exact kla e1 _
  have h3 : W.heap[w.heap.size + 1 + 1]? = some (.cells #[.int .i64 x.f0, .string x.f1, .int .i64 x.f2] 35 (0, 0)) := by rw [hW]; exact e2
  exact ⟨kcl h1 0, kcl h1 1, kcl h1 2, kcl h2 0, kcl h2 1, kcl h2 2, kcl h3 0, kcl h3 1, kcl h3 2, by rw [hW]; exact bla (bla (bla (Below.refl _ _) _) _) _⟩
theorem el_box {w X W2 : World} {o : S46} {v3 v4 v5 v6 : Value} {N : Nat} (hN : w.heap.size ≤ N) (r3 : k35.R 35 X N (fun _ => True) v3 o.f3) (r4 : k35.R 35 X N (fun _ => True) v4 o.f4) (r5 : Kd.string.R 9 X N (fun _ => True) v5 o.f5) (r6 : k35.R 35 X N (fun _ => True) v6 o.f6) (ha : AP4 v3 v4 v5 v6)
    (hW : W2 = X.alloc (.cells #[.int .i64 o.f0, .string o.f1, .int .i64 o.f2, v3, v4, v5, v6] 46)) : El W2 X.heap.size 0 (fun q => w.heap.size ≤ q) o v3 v4 v5 v6 ∧ Ot W2 X.heap.size 1 [o] 0 (PB v3 v4 v5 v6) (fun q => w.heap.size ≤ q) := by
  have e : W2.heap[X.heap.size]? = some (.cells #[.int .i64 o.f0, .string o.f1, .int .i64 o.f2, v3, v4, v5, v6] 46 (0, 0)) := by rw [hW]; exact blk_new _ _
  have mv : ∀ {α : Type} {d : Kd α} {e : Nat} {v : Value} {xs : List α}, d.R e X N (fun _ => True) v xs → d.R e W2 0 (fun k => k ≠ X.heap.size ∧ w.heap.size ≤ k) v xs := by
    intro α d e v xs h
    rw [hW]
    exact Kd.R_alloc (Kd.R_lower (Kd.R_mono (Kd.R_bound h) (fun k hk => ⟨by have := hk.2.2.1; omega, by have := hk.2.1; omega⟩)) (Nat.zero_le _)) _
  refine ⟨⟨mv r3, mv r4, mv r5, mv r6, ha, fun j u hu => ?_, fun j => kfz e _⟩, ⟨rfl, by decide, blk_lt e, fun i o' hi ho' => ?_⟩⟩
  · rw [show 0 * 7 + j = j by omega]
    refine (kcl e j).trans ?_
    rw [← hu]
    simp only [List.getElem?_toArray]
  · rcases i with _ | i
    · exact absurd rfl hi
    · simp at ho'
theorem far3j (wi : World) {b k : Nat} (i : Nat) (hn : k ≠ b) (x y z : Value) : (((wi.setCell ⟨b, i, none⟩ x).setCell ⟨b, i + 1, none⟩ y).setCell ⟨b, i + 2, none⟩ z).heap[k]? = wi.heap[k]? := by
  rw [Below.heap_setCell _ _ _ _ hn, Below.heap_setCell _ _ _ _ hn, Below.heap_setCell _ _ _ _ hn]
theorem R_low3j {wi : World} {ok : Nat → Prop} {v : Value} {l : List S46} {b : Nat} (i : Nat) (h : k46.R 46 wi 0 ok v l) (hp : ∀ q, ok q → q ≠ b) (x y z : Value) : k46.R 46 (((wi.setCell ⟨b, i, none⟩ x).setCell ⟨b, i + 1, none⟩ y).setCell ⟨b, i + 2, none⟩ z) 0 ok v l :=
  Kd.R_far (Kd.R_far (Kd.R_far h hp x) hp y) hp z
theorem put_obj {X : World} {gb b9 n c r : Nat} {l : List S46} {ok D : Nat → Prop} {o : S46} {v3 v4 v5 v6 : Value} (hR : k46.R 46 X 0 ok (.slice (some ⟨gb, 0, none⟩) n c) l) (hr : r < n) (hel : El X b9 0 D o v3 v4 v5 v6) (hD : ∀ q, D q → ok q ∧ q ≠ gb) :
    k46.R 46 (((((((X.setCell ⟨gb, r * 7, none⟩ (.int .i64 o.f0)).setCell ⟨gb, r * 7 + 1, none⟩ (.string o.f1)).setCell ⟨gb, r * 7 + 2, none⟩ (.int .i64 o.f2)).setCell ⟨gb, r * 7 + 3, none⟩ v3).setCell ⟨gb, r * 7 + 4, none⟩ v4).setCell ⟨gb, r * 7 + 5, none⟩ v5).setCell ⟨gb, r * 7 + 6, none⟩ v6) 0 ok (.slice (some ⟨gb, 0, none⟩) n c) (l.set r o) ∧ X.grownBy (((((((X.setCell ⟨gb, r * 7, none⟩ (.int .i64 o.f0)).setCell ⟨gb, r * 7 + 1, none⟩ (.string o.f1)).setCell ⟨gb, r * 7 + 2, none⟩ (.int .i64 o.f2)).setCell ⟨gb, r * 7 + 3, none⟩ v3).setCell ⟨gb, r * 7 + 4, none⟩ v4).setCell ⟨gb, r * 7 + 5, none⟩ v5).setCell ⟨gb, r * 7 + 6, none⟩ v6) (some gb) := by
  obtain ⟨cs, hcl, hM, hc, hf⟩ := Kd.R_elem hR z46 (r : Int) (by omega) (by omega)
  have e7 : k46.sz = 7 := rfl
  have mv : ∀ {α : Type} {d : Kd α} {e : Nat} {v : Value} {xs : List α}, d.R e X 0 (fun k => k ≠ b9 ∧ D k) v xs → d.R e X 0 (fun k => ok k ∧ k ≠ gb) v xs := fun h => Kd.R_mono h (fun k hk => hD k hk.2)
  have hs := Kd.R_seg (j := 0) (seg := [.int .i64 o.f0, .string o.f1, .int .i64 o.f2, v3, v4, v5, v6]) (x' := o) (okp := fun k => ok k ∧ k ≠ gb) hR (r : Int) (by omega) (by omega) hcl hc (by simp [e7]) (by
      have := k46_mkM X 0 (fun k => ok k ∧ k ≠ gb) o (mv hel.r3) (mv hel.r4) (mv hel.r5) (mv hel.r6)
      simpa [List.drop_eq_nil_of_le (show cs.length ≤ 7 by omega)] using this) (fun k hk => hk)
  rw [e7, show (r : Int).toNat = r from rfl, Nat.add_zero] at hs
  exact hs
def SIPostS (w : World) (gb n c : Nat) (ok : Nat → Prop) (l' : List S46) (cc : Int) (e : Ending) (w' : World) : Prop := e = .returned (.int .i64 cc) ∧ k46.R 46 w' 0 ok (.slice (some ⟨gb, 0, none⟩) n c) l' ∧ Kp w w' (fun q => q = gb)
set_option maxRecDepth 100000 in
set_option maxHeartbeats 4000000 in
theorem setIndexS_w (g gb n c : Nat) (ok : Nat → Prop) (l l' : List S46) (v k x : S35) (cc : Int) (w : World) (hg : Rr w g (some ⟨gb, 0, none⟩) n c) (hR : k46.R 46 w 0 ok (.slice (some ⟨gb, 0, none⟩) n c) l) (hok : ∀ q, w.heap.size ≤ q → ok q) (hn : n ≤ 1000) (hol : ∀ o ∈ l, oL o) (hki : k.f0 = 2 → B.intB k.f1 = true ∧ k.f1.size ≤ 5) (h : Put l v k x l' cc) :
    Calls Try.prog 77 #[.pointer (some ⟨g, 0, none⟩), .agg #[.int .i64 v.f0, .string v.f1, .int .i64 v.f2], .agg #[.int .i64 k.f0, .string k.f1, .int .i64 k.f2], .agg #[.int .i64 x.f0, .string x.f1, .int .i64 x.f2]] w (SIPostS w gb n c ok l' cc) := by
  obtain ⟨W, hW⟩ : ∃ W : World, W = ((w.alloc (.cells #[.int .i64 v.f0, .string v.f1, .int .i64 v.f2] 35)).alloc (.cells #[.int .i64 k.f0, .string k.f1, .int .i64 k.f2] 35)).alloc (.cells #[.int .i64 x.f0, .string x.f1, .int .i64 x.f2] 35) := ⟨_, rfl⟩
  have BX := Aside0.mk (s3_new w v k x W hW)
  have hbl := BX.out.bl
  have HR := Aside0.mk (Kd.R_below (Kd.R_mono (ok' := fun q => ok q ∧ q < w.heap.size) (Kd.R_bound hR) (fun q hq => ⟨hq.1, hq.2.2.1⟩)) hbl)
  have hgl := blk_lt hg
  have HGL := Lib.hid hgl
  have HWS := Lib.hid (show w.heap.size + 1 + 1 < W.heap.size from World.block_lt_of_cell? W _ BX.out.x0)
  have HG := Aside0.mk (show Rr W g (some ⟨gb, 0, none⟩) n c from kbw hg hbl)
  have hC : Kd.C k46 W (some ⟨gb, 0, none⟩) n l := by
    obtain ⟨e1, -, e2⟩ := Kd.R_reads' HR.out
    rw [← e1] at e2
    exact e2
  have HOKN := Aside0.mk hok
  have HEL := Aside0.mk (fun (m i c' : Int) (X : World) (hm : 0 ≤ m ∧ m ≤ 1000000) (hp : Plc k.f0 k.f1 m i c') => indexIn_w k.f0 k.f1 k.f2 m X hki hm i c' hp)
  have HW := Lib.hid hW
  obtain ⟨v0, v1, v2, k0, k1, k2, x0, x1, x2, -⟩ := BX.out
  have HL := Aside0.mk hC.1
  clear hW hg hR hok hgl
  cases h with
  | le r o i c1 h1 h2 h3 h4 h5 h6 =>
    obtain ⟨o2, ad, A3, c3, A4, c4, A5, c5, A6, c6, hx, hA, g0, g1, g2, g3, g4, g5, g6, q3, q4, q5, q6⟩ := obj_at hC r (by have := (List.getElem?_eq_some_iff.1 h3).1; have := hC.1; omega)
    obtain rfl : o = o2 := Option.some.inj (h3.symm.trans hx)
    obtain rfl := Option.some.inj hA
    have ho3 := (hol o (List.mem_of_getElem? h3)).1
    have ho4 := (hol o (List.mem_of_getElem? h3)).2.1
    have ho5 := (hol o (List.mem_of_getElem? h3)).2.2.1
    have ho6 := (hol o (List.mem_of_getElem? h3)).2.2.2
    have hrn : r < n := by have := (List.getElem?_eq_some_iff.1 h3).1; have := hC.1; omega
    obtain rfl : r = v.f2.toNat := by omega
    have h2a : 0 ≤ v.f2 := by omega
    have h2b : v.f2 < (n : Int) := by omega
    have HOBJ := Aside0.mk (obj_ref g ⟨gb, 0, none⟩ n c v o A3 c3 A4 c4 A5 c5 A6 c6 W HG.out h1 h2a h2b hn ⟨g0, g1, g2, g3, g4, g5, g6, q3.2, q4.2⟩)
    have HCP := Aside0.mk (fun (X : World) (hb : Below W.heap.size W X) => copyA_w o A3 o.f3.length c3 A4 o.f4.length c4 A5 o.f5.length c5 A6 o.f6.length c6 X (Kd.C_below q3.2 hb) (Kd.C_below q4.2 hb) (Kd.C_below q5.2 hb) (Kd.C_below q6.2 hb) ho3 ho4 ho5 ho6)
    clear hx g0 g1 g2 g3 g4 g5 g6 q3 q4 q5 q6 h2 hC hol hki hbl
    have hkind : (o.f0 == 1) = true := by simp [h4]
    have hc1 : (cc == -1) = false := by simpa using h6
    have HP := Aside0.mk h5
    clear h1 h3 h4 h5 h6
    go_enter Try.func77, Try.ntmps77
    go_upto_region 1 with (fail)
    rw [← HW.out]
    go_upto_region 3 with (first | (go_at_call 119; refine HOBJ.out.mono ?_; rintro e w1 ⟨rfl, hB⟩; have HB1 := Aside0.mk hB; replace BX := Aside0.mk (BX.out.below hB); clear v0 v1 v2 k0 k1 k2 x0 x1 x2; obtain ⟨v0, v1, v2, k0, k1, k2, x0, x1, x2, -⟩ := BX.out; replace HR := Aside0.mk (Kd.R_below HR.out hB); replace HG := Aside0.mk (show Rr _ g (some ⟨gb, 0, none⟩) n c from kbw HG.out hB); clear hB) | (go_at_call 122; refine (HCP.out _ HB1.out).mono ?_; rintro e w2 ⟨u3, u4, u5, u6, rfl, r3, r4, r5, r6, hB, hap⟩; obtain ⟨B3, m3, d3, rfl⟩ := sform r3; obtain ⟨B4, m4, d4, rfl⟩ := sform r4; obtain ⟨B5, m5, d5, rfl⟩ := sform r5; obtain ⟨B6, m6, d6, rfl⟩ := sform r6; have hm3 := (Kd.R_reads' r3).1; have hm4 := (Kd.R_reads' r4).1; have HM3 := Aside0.mk hm3; have HM4 := Aside0.mk hm4; have hsz := HB1.out.size; have HWB9 := Aside0.mk (Nat.le_trans HB1.out.size hB.size); have HCE := Aside0.mk (fun (W2 : World) hW2 => el_box (w := W) (W2 := W2) hsz r3 r4 r5 r6 hap hW2); replace BX := Aside0.mk (BX.out.below hB); clear v0 v1 v2 k0 k1 k2 x0 x1 x2; obtain ⟨v0, v1, v2, k0, k1, k2, x0, x1, x2, -⟩ := BX.out; replace HR := Aside0.mk (Kd.R_below HR.out hB); replace HG := Aside0.mk (show Rr _ g (some ⟨gb, 0, none⟩) n c from kbw HG.out hB); clear hB hm3 hm4 hap r3 r4 r5 r6 hsz))
    obtain ⟨W2, hW2⟩ : ∃ W2 : World, W2 = w2.alloc (.cells #[.int .i64 o.f0, .string o.f1, .int .i64 o.f2, .slice B3 m3 d3, .slice B4 m4 d4, .slice B5 m5 d5, .slice B6 m6 d6] 46) := ⟨_, rfl⟩
    obtain ⟨hel, hot⟩ := HCE.out W2 hW2
    have hB : Below w2.heap.size w2 W2 := by rw [hW2]; exact bla (Below.refl _ _) _
    rw [← hW2]
    obtain ⟨b9, hb9⟩ : ∃ b9, b9 = w2.heap.size := ⟨_, rfl⟩
    rw [← hb9] at hel hot HWB9 ⊢
    have EX := Aside0.mk hel
    have OX := Aside0.mk hot
    replace BX := Aside0.mk (BX.out.below hB)
    clear v0 v1 v2 k0 k1 k2 x0 x1 x2
    obtain ⟨v0, v1, v2, k0, k1, k2, x0, x1, x2, -⟩ := BX.out
    replace HR := Aside0.mk (Kd.R_below HR.out hB)
    replace HG := Aside0.mk (show Rr _ g (some ⟨gb, 0, none⟩) n c from kbw HG.out hB)
    have e0 := EX.out.ce 0 _ rfl
    have e3 := EX.out.ce 3 _ rfl
    have e4 := EX.out.ce 4 _ rfl
    have hm3 : m3 ≤ 1000 := by have := HM3.out; omega
    have hm4 : m4 ≤ 1000 := by have := HM4.out; omega
    clear hel hot hB hW2 hb9 HCE HB1 ho3 ho4 ho5 ho6
    go_wp2_with (first | (go_at_call 120; refine (HEL.out _ _ _ _ (by omega) (by rw [HM3.out]; exact HP.out)).mono ?_; rintro e w3 ⟨rfl, hB⟩; replace BX := Aside0.mk (BX.out.below hB); clear v0 v1 v2 k0 k1 k2 x0 x1 x2; obtain ⟨v0, v1, v2, k0, k1, k2, x0, x1, x2, -⟩ := BX.out; replace HR := Aside0.mk (Kd.R_below HR.out hB); replace HG := Aside0.mk (show Rr _ g (some ⟨gb, 0, none⟩) n c from kbw HG.out hB); replace EX := Aside0.mk (EX.out.below OX.out.lt hB); replace OX := Aside0.mk (OX.out.below hB EX.out.notgb); clear e0 e3 e4; have e0 := EX.out.ce 0 _ rfl; have e3 := EX.out.ce 3 _ rfl; have e4 := EX.out.ce 4 _ rfl; clear hB))
    go_ret
    exact ⟨rfl, Kd.R_mono HR.out (fun _ hq => hq.1), Kp.of BX.out.bl⟩
  | li r o j h1 h2 h3 h4 h5 h6 =>
    obtain ⟨o2, ad, A3, c3, A4, c4, A5, c5, A6, c6, hx, hA, g0, g1, g2, g3, g4, g5, g6, q3, q4, q5, q6⟩ := obj_at hC r (by have := (List.getElem?_eq_some_iff.1 h3).1; have := hC.1; omega)
    obtain rfl : o = o2 := Option.some.inj (h3.symm.trans hx)
    obtain rfl := Option.some.inj hA
    have ho3 := (hol o (List.mem_of_getElem? h3)).1
    have ho4 := (hol o (List.mem_of_getElem? h3)).2.1
    have ho5 := (hol o (List.mem_of_getElem? h3)).2.2.1
    have ho6 := (hol o (List.mem_of_getElem? h3)).2.2.2
    have hrn : r < n := by have := (List.getElem?_eq_some_iff.1 h3).1; have := hC.1; omega
    obtain rfl : r = v.f2.toNat := by omega
    have h2a : 0 ≤ v.f2 := by omega
    have h2b : v.f2 < (n : Int) := by omega
    have HOBJ := Aside0.mk (obj_ref g ⟨gb, 0, none⟩ n c v o A3 c3 A4 c4 A5 c5 A6 c6 W HG.out h1 h2a h2b hn ⟨g0, g1, g2, g3, g4, g5, g6, q3.2, q4.2⟩)
    have HCP := Aside0.mk (fun (X : World) (hb : Below W.heap.size W X) => copyA_w o A3 o.f3.length c3 A4 o.f4.length c4 A5 o.f5.length c5 A6 o.f6.length c6 X (Kd.C_below q3.2 hb) (Kd.C_below q4.2 hb) (Kd.C_below q5.2 hb) (Kd.C_below q6.2 hb) ho3 ho4 ho5 ho6)
    clear hx g0 g1 g2 g3 g4 g5 g6 q3 q4 q5 q6 h2 hC hol hki hbl
    have hkind : (o.f0 == 1) = true := by simp [h4]
    have HP := Aside0.mk h5
    have HJ := Aside0.mk h6
    clear h1 h3 h4 h5 h6
    go_enter Try.func77, Try.ntmps77
    go_upto_region 1 with (fail)
    rw [← HW.out]
    go_upto_region 3 with (first | (go_at_call 119; refine HOBJ.out.mono ?_; rintro e w1 ⟨rfl, hB⟩; have HB1 := Aside0.mk hB; replace BX := Aside0.mk (BX.out.below hB); clear v0 v1 v2 k0 k1 k2 x0 x1 x2; obtain ⟨v0, v1, v2, k0, k1, k2, x0, x1, x2, -⟩ := BX.out; replace HR := Aside0.mk (Kd.R_below HR.out hB); replace HG := Aside0.mk (show Rr _ g (some ⟨gb, 0, none⟩) n c from kbw HG.out hB); clear hB) | (go_at_call 122; refine (HCP.out _ HB1.out).mono ?_; rintro e w2 ⟨u3, u4, u5, u6, rfl, r3, r4, r5, r6, hB, hap⟩; obtain ⟨B3, m3, d3, rfl⟩ := sform r3; obtain ⟨B4, m4, d4, rfl⟩ := sform r4; obtain ⟨B5, m5, d5, rfl⟩ := sform r5; obtain ⟨B6, m6, d6, rfl⟩ := sform r6; have hm3 := (Kd.R_reads' r3).1; have hm4 := (Kd.R_reads' r4).1; have HM3 := Aside0.mk hm3; have HM4 := Aside0.mk hm4; have hsz := HB1.out.size; have HWB9 := Aside0.mk (Nat.le_trans HB1.out.size hB.size); have HCE := Aside0.mk (fun (W2 : World) hW2 => el_box (w := W) (W2 := W2) hsz r3 r4 r5 r6 hap hW2); replace BX := Aside0.mk (BX.out.below hB); clear v0 v1 v2 k0 k1 k2 x0 x1 x2; obtain ⟨v0, v1, v2, k0, k1, k2, x0, x1, x2, -⟩ := BX.out; replace HR := Aside0.mk (Kd.R_below HR.out hB); replace HG := Aside0.mk (show Rr _ g (some ⟨gb, 0, none⟩) n c from kbw HG.out hB); clear hB hm3 hm4 hap r3 r4 r5 r6 hsz))
    obtain ⟨W2, hW2⟩ : ∃ W2 : World, W2 = w2.alloc (.cells #[.int .i64 o.f0, .string o.f1, .int .i64 o.f2, .slice B3 m3 d3, .slice B4 m4 d4, .slice B5 m5 d5, .slice B6 m6 d6] 46) := ⟨_, rfl⟩
    obtain ⟨hel, hot⟩ := HCE.out W2 hW2
    have hB : Below w2.heap.size w2 W2 := by rw [hW2]; exact bla (Below.refl _ _) _
    rw [← hW2]
    obtain ⟨b9, hb9⟩ : ∃ b9, b9 = w2.heap.size := ⟨_, rfl⟩
    rw [← hb9] at hel hot HWB9 ⊢
    have EX := Aside0.mk hel
    have OX := Aside0.mk hot
    replace BX := Aside0.mk (BX.out.below hB)
    clear v0 v1 v2 k0 k1 k2 x0 x1 x2
    obtain ⟨v0, v1, v2, k0, k1, k2, x0, x1, x2, -⟩ := BX.out
    replace HR := Aside0.mk (Kd.R_below HR.out hB)
    replace HG := Aside0.mk (show Rr _ g (some ⟨gb, 0, none⟩) n c from kbw HG.out hB)
    have e0 := EX.out.ce 0 _ rfl
    have e3 := EX.out.ce 3 _ rfl
    have e4 := EX.out.ce 4 _ rfl
    have hm3 : m3 ≤ 1000 := by have := HM3.out; omega
    have hm4 : m4 ≤ 1000 := by have := HM4.out; omega
    clear hel hot hB hW2 hb9 HCE HB1 ho3 ho4 ho5 ho6
    have hjo := HJ.out
    go_upto_region 7 with (first | (go_at_call 120; refine (HEL.out _ _ _ _ (by omega) (by rw [HM3.out]; exact HP.out)).mono ?_; rintro e w3 ⟨rfl, hB⟩; replace BX := Aside0.mk (BX.out.below hB); clear v0 v1 v2 k0 k1 k2 x0 x1 x2; obtain ⟨v0, v1, v2, k0, k1, k2, x0, x1, x2, -⟩ := BX.out; replace HR := Aside0.mk (Kd.R_below HR.out hB); replace HG := Aside0.mk (show Rr _ g (some ⟨gb, 0, none⟩) n c from kbw HG.out hB); replace EX := Aside0.mk (EX.out.below OX.out.lt hB); replace OX := Aside0.mk (OX.out.below hB EX.out.notgb); clear e0 e3 e4; have e0 := EX.out.ce 0 _ rfl; have e3 := EX.out.ce 3 _ rfl; have e4 := EX.out.ce 4 _ rfl; clear hB))
    obtain ⟨g3, cap3, hA3, -, hg3, -⟩ := Kd.R_form EX.out.r3 (by have := HM3.out; omega)
    injection hA3 with hA3 hA3b hA3c
    subst hA3
    have hD3 := (EX.out.r3.1 g3 rfl).2
    obtain ⟨cs3, hcl3, hM3, hcell3, hfz3⟩ := Kd.R_elem EX.out.r3 zV (j : Int) (by omega) (by have := HM3.out; omega)
    have esz : k35.sz = 3 := rfl
    rw [esz, show (j : Int).toNat = j from rfl] at hcell3 hfz3
    rw [esz] at hcl3
    have a0 := hcell3 0 (cs3[0]'(by omega)) (List.getElem?_eq_getElem (by omega))
    have a1 := hcell3 1 (cs3[1]'(by omega)) (List.getElem?_eq_getElem (by omega))
    have a2 := hcell3 2 (cs3[2]'(by omega)) (List.getElem?_eq_getElem (by omega))
    have b0 := hfz3 0
    have b1 := hfz3 1
    have b2 := hfz3 2
    rw [Nat.add_zero] at a0 b0
    have hjm : j < m3 := by have := HM3.out; omega
    have HA3 := Aside0.mk hA3b
    clear hcell3 hfz3 hM3 esz hA3b hA3c hg3
    go_upto_region 16 with (fail)
    obtain ⟨hx1, hx2, -⟩ := EX.out.setItem OX.out j hjm x 0 (fun _ _ => Nat.zero_le _) (Below.refl 0 w3) _ rfl
    have hkp := (((Kp.of BX.out.bl (Q := fun q => q = gb)).set ⟨g3, j * 3, none⟩ (fun hq => by exfalso; have hq' : g3 < w.heap.size := hq; have := HWS.out; have : W.heap.size ≤ g3 := hD3; omega) (.int .i64 x.f0)).set ⟨g3, j * 3 + 1, none⟩ (fun hq => by exfalso; have hq' : g3 < w.heap.size := hq; have := HWS.out; have : W.heap.size ≤ g3 := hD3; omega) (.string x.f1)).set ⟨g3, j * 3 + 2, none⟩ (fun hq => by exfalso; have hq' : g3 < w.heap.size := hq; have := HWS.out; have : W.heap.size ≤ g3 := hD3; omega) (.int .i64 x.f2)
    have hr2 := R_low3j (j * 3) HR.out (b := g3) (fun q hq e => by have := hq.2; have := HWS.out; have : W.heap.size ≤ g3 := hD3; omega) (.int .i64 x.f0) (.string x.f1) (.int .i64 x.f2)
    have hg2 : Rr (((w3.setCell ⟨g3, j * 3, none⟩ (.int .i64 x.f0)).setCell ⟨g3, j * 3 + 1, none⟩ (.string x.f1)).setCell ⟨g3, j * 3 + 2, none⟩ (.int .i64 x.f2)) g (some ⟨gb, 0, none⟩) n c := (far3j w3 (j * 3) (b := g3) (k := g) (by have := HGL.out; have := HWS.out; have : W.heap.size ≤ g3 := hD3; omega) _ _ _).trans HG.out
    have v2' := (World.cell?_of_block (a := ⟨w.heap.size, 2, none⟩) (far3j w3 (j * 3) (b := g3) (k := w.heap.size) (by have := HWS.out; have : W.heap.size ≤ g3 := hD3; omega) (.int .i64 x.f0) (.string x.f1) (.int .i64 x.f2))).trans v2
    generalize ((w3.setCell ⟨g3, j * 3, none⟩ (.int .i64 x.f0)).setCell ⟨g3, j * 3 + 1, none⟩ (.string x.f1)).setCell ⟨g3, j * 3 + 2, none⟩ (.int .i64 x.f2) = Y at hx1 hx2 hkp hr2 hg2 v2' ⊢
    clear v0 v1 v2 k0 k1 k2 x0 x1 x2 e0 e3 e4 a0 a1 a2 b0 b1 b2
    have v2 := v2'
    have rr0 := (kcl hg2 0).trans (show _ = some (Value.slice (some ⟨gb, 0, none⟩) n c) from rfl)
    have c0 : Y.cell? ⟨b9, 0, none⟩ = some (.int .i64 o.f0) := hx1.ce 0 _ rfl
    have c1' : Y.cell? ⟨b9, 1, none⟩ = some (.string o.f1) := hx1.ce 1 _ rfl
    have c2' : Y.cell? ⟨b9, 2, none⟩ = some (.int .i64 o.f2) := hx1.ce 2 _ rfl
    have c3' : Y.cell? ⟨b9, 3, none⟩ = some (.slice (some ⟨g3, 0, none⟩) m3 d3) := hx1.ce 3 _ rfl
    have c4' : Y.cell? ⟨b9, 4, none⟩ = some (.slice B4 m4 d4) := hx1.ce 4 _ rfl
    have c5' : Y.cell? ⟨b9, 5, none⟩ = some (.slice B5 m5 d5) := hx1.ce 5 _ rfl
    have c6' : Y.cell? ⟨b9, 6, none⟩ = some (.slice B6 m6 d6) := hx1.ce 6 _ rfl
    obtain ⟨cs, hcl, -, hcc, hff⟩ := Kd.R_elem hr2 z46 (v.f2.toNat : Int) (by omega) (by omega)
    have e7 : k46.sz = 7 := rfl
    rw [e7, show (v.f2.toNat : Int).toNat = v.f2.toNat from rfl] at hcc hff
    rw [e7] at hcl
    have t0 := hcc 0 (cs[0]'(by omega)) (List.getElem?_eq_getElem (by omega))
    have t1 := hcc 1 (cs[1]'(by omega)) (List.getElem?_eq_getElem (by omega))
    have t2 := hcc 2 (cs[2]'(by omega)) (List.getElem?_eq_getElem (by omega))
    have t3 := hcc 3 (cs[3]'(by omega)) (List.getElem?_eq_getElem (by omega))
    have t4 := hcc 4 (cs[4]'(by omega)) (List.getElem?_eq_getElem (by omega))
    have t5 := hcc 5 (cs[5]'(by omega)) (List.getElem?_eq_getElem (by omega))
    have t6 := hcc 6 (cs[6]'(by omega)) (List.getElem?_eq_getElem (by omega))
    have u0 := hff 0
    have u1 := hff 1
    have u2 := hff 2
    have u3 := hff 3
    have u4 := hff 4
    have u5 := hff 5
    have u6 := hff 6
    rw [Nat.add_zero] at t0 u0
    have hput := put_obj (ok := ok) (Kd.R_mono hr2 (fun _ hq => hq.1)) hrn hx1 (fun q hq => ⟨HOKN.out q (by have := HWS.out; have hq' : W.heap.size ≤ q := hq; omega), by have := (hr2.1 gb rfl).2; have := HWS.out; have hq' : W.heap.size ≤ q := hq; omega⟩)
    dsimp only at hput
    have HPUT := Aside0.mk hput
    have HKP := Aside0.mk hkp
    clear hput hkp hcc hff e7 hx1 hx2 hr2 hg2 v2'
    go_region
    go_wp2_with fail
    go_ret
    have hput := HPUT.out
    generalize ((((((Y.setCell ⟨gb, v.f2.toNat * 7, none⟩ (.int .i64 o.f0)).setCell ⟨gb, v.f2.toNat * 7 + 1, none⟩ (.string o.f1)).setCell ⟨gb, v.f2.toNat * 7 + 2, none⟩ (.int .i64 o.f2)).setCell ⟨gb, v.f2.toNat * 7 + 3, none⟩ (.slice (some ⟨g3, 0, none⟩) m3 d3)).setCell ⟨gb, v.f2.toNat * 7 + 4, none⟩ (.slice B4 m4 d4)).setCell ⟨gb, v.f2.toNat * 7 + 5, none⟩ (.slice B5 m5 d5)).setCell ⟨gb, v.f2.toNat * 7 + 6, none⟩ (.slice B6 m6 d6) = Z at hput ⊢
    exact ⟨rfl, Kd.R_drew hput.1, (HKP.out.grown hput.2 (fun q hq _ => (Option.some.inj hq).symm)).below (below_drew (Below.refl _ _))⟩
  | dr r o h1 h2 h3 h4 h5 =>
    obtain ⟨o2, ad, A3, c3, A4, c4, A5, c5, A6, c6, hx, hA, g0, g1, g2, g3, g4, g5, g6, q3, q4, q5, q6⟩ := obj_at hC r (by have := (List.getElem?_eq_some_iff.1 h3).1; have := hC.1; omega)
    obtain rfl : o = o2 := Option.some.inj (h3.symm.trans hx)
    obtain rfl := Option.some.inj hA
    have ho3 := (hol o (List.mem_of_getElem? h3)).1
    have ho4 := (hol o (List.mem_of_getElem? h3)).2.1
    have ho5 := (hol o (List.mem_of_getElem? h3)).2.2.1
    have ho6 := (hol o (List.mem_of_getElem? h3)).2.2.2
    have hrn : r < n := by have := (List.getElem?_eq_some_iff.1 h3).1; have := hC.1; omega
    obtain rfl : r = v.f2.toNat := by omega
    have h2a : 0 ≤ v.f2 := by omega
    have h2b : v.f2 < (n : Int) := by omega
    have HOBJ := Aside0.mk (obj_ref g ⟨gb, 0, none⟩ n c v o A3 c3 A4 c4 A5 c5 A6 c6 W HG.out h1 h2a h2b hn ⟨g0, g1, g2, g3, g4, g5, g6, q3.2, q4.2⟩)
    have HCP := Aside0.mk (fun (X : World) (hb : Below W.heap.size W X) => copyA_w o A3 o.f3.length c3 A4 o.f4.length c4 A5 o.f5.length c5 A6 o.f6.length c6 X (Kd.C_below q3.2 hb) (Kd.C_below q4.2 hb) (Kd.C_below q5.2 hb) (Kd.C_below q6.2 hb) ho3 ho4 ho5 ho6)
    clear hx g0 g1 g2 g3 g4 g5 g6 q3 q4 q5 q6 h2 hC hol hki hbl
    have hkind : (o.f0 == 1) = false := by simp [h4]
    have hkind2 : (o.f0 == 2) = true := by simp [h4]
    have HHA := Aside0.mk (show spec_hashable.f k.f0 k.f1 k.f2 = some false by unfold spec_hashable.f; simp [h5])
    clear h1 h3 h4 h5
    go_enter Try.func77, Try.ntmps77
    go_upto_region 1 with (fail)
    rw [← HW.out]
    go_upto_region 3 with (first | (go_at_call 119; refine HOBJ.out.mono ?_; rintro e w1 ⟨rfl, hB⟩; have HB1 := Aside0.mk hB; replace BX := Aside0.mk (BX.out.below hB); clear v0 v1 v2 k0 k1 k2 x0 x1 x2; obtain ⟨v0, v1, v2, k0, k1, k2, x0, x1, x2, -⟩ := BX.out; replace HR := Aside0.mk (Kd.R_below HR.out hB); replace HG := Aside0.mk (show Rr _ g (some ⟨gb, 0, none⟩) n c from kbw HG.out hB); clear hB) | (go_at_call 122; refine (HCP.out _ HB1.out).mono ?_; rintro e w2 ⟨u3, u4, u5, u6, rfl, r3, r4, r5, r6, hB, hap⟩; obtain ⟨B3, m3, d3, rfl⟩ := sform r3; obtain ⟨B4, m4, d4, rfl⟩ := sform r4; obtain ⟨B5, m5, d5, rfl⟩ := sform r5; obtain ⟨B6, m6, d6, rfl⟩ := sform r6; have hm3 := (Kd.R_reads' r3).1; have hm4 := (Kd.R_reads' r4).1; have HM3 := Aside0.mk hm3; have HM4 := Aside0.mk hm4; have hsz := HB1.out.size; have HWB9 := Aside0.mk (Nat.le_trans HB1.out.size hB.size); have HCE := Aside0.mk (fun (W2 : World) hW2 => el_box (w := W) (W2 := W2) hsz r3 r4 r5 r6 hap hW2); replace BX := Aside0.mk (BX.out.below hB); clear v0 v1 v2 k0 k1 k2 x0 x1 x2; obtain ⟨v0, v1, v2, k0, k1, k2, x0, x1, x2, -⟩ := BX.out; replace HR := Aside0.mk (Kd.R_below HR.out hB); replace HG := Aside0.mk (show Rr _ g (some ⟨gb, 0, none⟩) n c from kbw HG.out hB); clear hB hm3 hm4 hap r3 r4 r5 r6 hsz))
    obtain ⟨W2, hW2⟩ : ∃ W2 : World, W2 = w2.alloc (.cells #[.int .i64 o.f0, .string o.f1, .int .i64 o.f2, .slice B3 m3 d3, .slice B4 m4 d4, .slice B5 m5 d5, .slice B6 m6 d6] 46) := ⟨_, rfl⟩
    obtain ⟨hel, hot⟩ := HCE.out W2 hW2
    have hB : Below w2.heap.size w2 W2 := by rw [hW2]; exact bla (Below.refl _ _) _
    rw [← hW2]
    obtain ⟨b9, hb9⟩ : ∃ b9, b9 = w2.heap.size := ⟨_, rfl⟩
    rw [← hb9] at hel hot HWB9 ⊢
    have EX := Aside0.mk hel
    have OX := Aside0.mk hot
    replace BX := Aside0.mk (BX.out.below hB)
    clear v0 v1 v2 k0 k1 k2 x0 x1 x2
    obtain ⟨v0, v1, v2, k0, k1, k2, x0, x1, x2, -⟩ := BX.out
    replace HR := Aside0.mk (Kd.R_below HR.out hB)
    replace HG := Aside0.mk (show Rr _ g (some ⟨gb, 0, none⟩) n c from kbw HG.out hB)
    have e0 := EX.out.ce 0 _ rfl
    have e3 := EX.out.ce 3 _ rfl
    have e4 := EX.out.ce 4 _ rfl
    have hm3 : m3 ≤ 1000 := by have := HM3.out; omega
    have hm4 : m4 ≤ 1000 := by have := HM4.out; omega
    clear hel hot hB hW2 hb9 HCE HB1 ho3 ho4 ho5 ho6
    go_wp2_with (first | (go_at_call 121; refine (spec_hashable.calls _ _ _ false _ HHA.out).mono ?_; rintro e w3 ⟨rfl, hB⟩; replace BX := Aside0.mk (BX.out.below hB); clear v0 v1 v2 k0 k1 k2 x0 x1 x2; obtain ⟨v0, v1, v2, k0, k1, k2, x0, x1, x2, -⟩ := BX.out; replace HR := Aside0.mk (Kd.R_below HR.out hB); replace HG := Aside0.mk (show Rr _ g (some ⟨gb, 0, none⟩) n c from kbw HG.out hB); replace EX := Aside0.mk (EX.out.below OX.out.lt hB); replace OX := Aside0.mk (OX.out.below hB EX.out.notgb); clear e0 e3 e4; have e0 := EX.out.ce 0 _ rfl; have e3 := EX.out.ce 3 _ rfl; have e4 := EX.out.ce 4 _ rfl; clear hB))
    go_ret
    exact ⟨rfl, Kd.R_mono HR.out (fun _ hq => hq.1), Kp.of BX.out.bl⟩
  | df r o j h1 h2 h3 h4 h5 h6 h7 =>
    obtain ⟨o2, ad, A3, c3, A4, c4, A5, c5, A6, c6, hx, hA, g0, g1, g2, g3, g4, g5, g6, q3, q4, q5, q6⟩ := obj_at hC r (by have := (List.getElem?_eq_some_iff.1 h3).1; have := hC.1; omega)
    obtain rfl : o = o2 := Option.some.inj (h3.symm.trans hx)
    obtain rfl := Option.some.inj hA
    have ho3 := (hol o (List.mem_of_getElem? h3)).1
    have ho4 := (hol o (List.mem_of_getElem? h3)).2.1
    have ho5 := (hol o (List.mem_of_getElem? h3)).2.2.1
    have ho6 := (hol o (List.mem_of_getElem? h3)).2.2.2
    have hrn : r < n := by have := (List.getElem?_eq_some_iff.1 h3).1; have := hC.1; omega
    obtain rfl : r = v.f2.toNat := by omega
    have h2a : 0 ≤ v.f2 := by omega
    have h2b : v.f2 < (n : Int) := by omega
    have HOBJ := Aside0.mk (obj_ref g ⟨gb, 0, none⟩ n c v o A3 c3 A4 c4 A5 c5 A6 c6 W HG.out h1 h2a h2b hn ⟨g0, g1, g2, g3, g4, g5, g6, q3.2, q4.2⟩)
    have HCP := Aside0.mk (fun (X : World) (hb : Below W.heap.size W X) => copyA_w o A3 o.f3.length c3 A4 o.f4.length c4 A5 o.f5.length c5 A6 o.f6.length c6 X (Kd.C_below q3.2 hb) (Kd.C_below q4.2 hb) (Kd.C_below q5.2 hb) (Kd.C_below q6.2 hb) ho3 ho4 ho5 ho6)
    clear hx g0 g1 g2 g3 g4 g5 g6 q3 q4 q5 q6 h2 hC hol hki hbl
    have hkind : (o.f0 == 1) = false := by simp [h4]
    have hkind2 : (o.f0 == 2) = true := by simp [h4]
    have HHA := Aside0.mk (show spec_hashable.f k.f0 k.f1 k.f2 = some true by unfold spec_hashable.f; simp [h5])
    have HIX := Aside0.mk h6
    have HJ := Aside0.mk h7
    have hj0 : decide ((0 : Int) ≤ (j : Int)) = true := decide_eq_true (by omega)
    clear h1 h3 h4 h5 h6 h7
    go_enter Try.func77, Try.ntmps77
    go_upto_region 1 with (fail)
    rw [← HW.out]
    go_upto_region 3 with (first | (go_at_call 119; refine HOBJ.out.mono ?_; rintro e w1 ⟨rfl, hB⟩; have HB1 := Aside0.mk hB; replace BX := Aside0.mk (BX.out.below hB); clear v0 v1 v2 k0 k1 k2 x0 x1 x2; obtain ⟨v0, v1, v2, k0, k1, k2, x0, x1, x2, -⟩ := BX.out; replace HR := Aside0.mk (Kd.R_below HR.out hB); replace HG := Aside0.mk (show Rr _ g (some ⟨gb, 0, none⟩) n c from kbw HG.out hB); clear hB) | (go_at_call 122; refine (HCP.out _ HB1.out).mono ?_; rintro e w2 ⟨u3, u4, u5, u6, rfl, r3, r4, r5, r6, hB, hap⟩; obtain ⟨B3, m3, d3, rfl⟩ := sform r3; obtain ⟨B4, m4, d4, rfl⟩ := sform r4; obtain ⟨B5, m5, d5, rfl⟩ := sform r5; obtain ⟨B6, m6, d6, rfl⟩ := sform r6; have hm3 := (Kd.R_reads' r3).1; have hm4 := (Kd.R_reads' r4).1; have HM3 := Aside0.mk hm3; have HM4 := Aside0.mk hm4; have hsz := HB1.out.size; have HWB9 := Aside0.mk (Nat.le_trans HB1.out.size hB.size); have HCE := Aside0.mk (fun (W2 : World) hW2 => el_box (w := W) (W2 := W2) hsz r3 r4 r5 r6 hap hW2); replace BX := Aside0.mk (BX.out.below hB); clear v0 v1 v2 k0 k1 k2 x0 x1 x2; obtain ⟨v0, v1, v2, k0, k1, k2, x0, x1, x2, -⟩ := BX.out; replace HR := Aside0.mk (Kd.R_below HR.out hB); replace HG := Aside0.mk (show Rr _ g (some ⟨gb, 0, none⟩) n c from kbw HG.out hB); clear hB hm3 hm4 hap r3 r4 r5 r6 hsz))
    obtain ⟨W2, hW2⟩ : ∃ W2 : World, W2 = w2.alloc (.cells #[.int .i64 o.f0, .string o.f1, .int .i64 o.f2, .slice B3 m3 d3, .slice B4 m4 d4, .slice B5 m5 d5, .slice B6 m6 d6] 46) := ⟨_, rfl⟩
    obtain ⟨hel, hot⟩ := HCE.out W2 hW2
    have hB : Below w2.heap.size w2 W2 := by rw [hW2]; exact bla (Below.refl _ _) _
    rw [← hW2]
    obtain ⟨b9, hb9⟩ : ∃ b9, b9 = w2.heap.size := ⟨_, rfl⟩
    rw [← hb9] at hel hot HWB9 ⊢
    have EX := Aside0.mk hel
    have OX := Aside0.mk hot
    replace BX := Aside0.mk (BX.out.below hB)
    clear v0 v1 v2 k0 k1 k2 x0 x1 x2
    obtain ⟨v0, v1, v2, k0, k1, k2, x0, x1, x2, -⟩ := BX.out
    replace HR := Aside0.mk (Kd.R_below HR.out hB)
    replace HG := Aside0.mk (show Rr _ g (some ⟨gb, 0, none⟩) n c from kbw HG.out hB)
    have e0 := EX.out.ce 0 _ rfl
    have e3 := EX.out.ce 3 _ rfl
    have e4 := EX.out.ce 4 _ rfl
    have hm3 : m3 ≤ 1000 := by have := HM3.out; omega
    have hm4 : m4 ≤ 1000 := by have := HM4.out; omega
    clear hel hot hB hW2 hb9 HCE HB1 ho3 ho4 ho5 ho6
    have hjo := HJ.out
    go_upto_region 11 with (first | (go_at_call 121; refine (spec_hashable.calls _ _ _ true _ HHA.out).mono ?_; rintro e w3a ⟨rfl, hB⟩; replace BX := Aside0.mk (BX.out.below hB); clear v0 v1 v2 k0 k1 k2 x0 x1 x2; obtain ⟨v0, v1, v2, k0, k1, k2, x0, x1, x2, -⟩ := BX.out; replace HR := Aside0.mk (Kd.R_below HR.out hB); replace HG := Aside0.mk (show Rr _ g (some ⟨gb, 0, none⟩) n c from kbw HG.out hB); replace EX := Aside0.mk (EX.out.below OX.out.lt hB); replace OX := Aside0.mk (OX.out.below hB EX.out.notgb); clear e0 e3 e4; have e0 := EX.out.ce 0 _ rfl; have e3 := EX.out.ce 3 _ rfl; have e4 := EX.out.ce 4 _ rfl; clear hB) | (go_at_call 89; refine (keyAtV_w _ _ _ _ _ _ _ (show Kd.C k35 _ B4 m4 o.f4 from by obtain ⟨e1, -, e2⟩ := Kd.R_reads' EX.out.r4; rw [← e1] at e2; exact e2) (by omega) HIX.out).mono ?_; rintro e w3 ⟨rfl, hB⟩; replace BX := Aside0.mk (BX.out.below hB); clear v0 v1 v2 k0 k1 k2 x0 x1 x2; obtain ⟨v0, v1, v2, k0, k1, k2, x0, x1, x2, -⟩ := BX.out; replace HR := Aside0.mk (Kd.R_below HR.out hB); replace HG := Aside0.mk (show Rr _ g (some ⟨gb, 0, none⟩) n c from kbw HG.out hB); replace EX := Aside0.mk (EX.out.below OX.out.lt hB); replace OX := Aside0.mk (OX.out.below hB EX.out.notgb); clear e0 e3 e4; have e0 := EX.out.ce 0 _ rfl; have e3 := EX.out.ce 3 _ rfl; have e4 := EX.out.ce 4 _ rfl; clear hB))
    obtain ⟨g3, cap3, hA3, -, hg3, -⟩ := Kd.R_form EX.out.r3 (by have := HM3.out; omega)
    injection hA3 with hA3 hA3b hA3c
    subst hA3
    have hD3 := (EX.out.r3.1 g3 rfl).2
    obtain ⟨cs3, hcl3, hM3, hcell3, hfz3⟩ := Kd.R_elem EX.out.r3 zV (j : Int) (by omega) (by have := HM3.out; omega)
    have esz : k35.sz = 3 := rfl
    rw [esz, show (j : Int).toNat = j from rfl] at hcell3 hfz3
    rw [esz] at hcl3
    have a0 := hcell3 0 (cs3[0]'(by omega)) (List.getElem?_eq_getElem (by omega))
    have a1 := hcell3 1 (cs3[1]'(by omega)) (List.getElem?_eq_getElem (by omega))
    have a2 := hcell3 2 (cs3[2]'(by omega)) (List.getElem?_eq_getElem (by omega))
    have b0 := hfz3 0
    have b1 := hfz3 1
    have b2 := hfz3 2
    rw [Nat.add_zero] at a0 b0
    have hjm : j < m3 := by have := HM3.out; omega
    have HA3 := Aside0.mk hA3b
    clear hcell3 hfz3 hM3 esz hA3b hA3c hg3
    go_upto_region 16 with (fail)
    obtain ⟨hx1, hx2, -⟩ := EX.out.setItem OX.out j hjm x 0 (fun _ _ => Nat.zero_le _) (Below.refl 0 w3) _ rfl
    have hkp := (((Kp.of BX.out.bl (Q := fun q => q = gb)).set ⟨g3, j * 3, none⟩ (fun hq => by exfalso; have hq' : g3 < w.heap.size := hq; have := HWS.out; have : W.heap.size ≤ g3 := hD3; omega) (.int .i64 x.f0)).set ⟨g3, j * 3 + 1, none⟩ (fun hq => by exfalso; have hq' : g3 < w.heap.size := hq; have := HWS.out; have : W.heap.size ≤ g3 := hD3; omega) (.string x.f1)).set ⟨g3, j * 3 + 2, none⟩ (fun hq => by exfalso; have hq' : g3 < w.heap.size := hq; have := HWS.out; have : W.heap.size ≤ g3 := hD3; omega) (.int .i64 x.f2)
    have hr2 := R_low3j (j * 3) HR.out (b := g3) (fun q hq e => by have := hq.2; have := HWS.out; have : W.heap.size ≤ g3 := hD3; omega) (.int .i64 x.f0) (.string x.f1) (.int .i64 x.f2)
    have hg2 : Rr (((w3.setCell ⟨g3, j * 3, none⟩ (.int .i64 x.f0)).setCell ⟨g3, j * 3 + 1, none⟩ (.string x.f1)).setCell ⟨g3, j * 3 + 2, none⟩ (.int .i64 x.f2)) g (some ⟨gb, 0, none⟩) n c := (far3j w3 (j * 3) (b := g3) (k := g) (by have := HGL.out; have := HWS.out; have : W.heap.size ≤ g3 := hD3; omega) _ _ _).trans HG.out
    have v2' := (World.cell?_of_block (a := ⟨w.heap.size, 2, none⟩) (far3j w3 (j * 3) (b := g3) (k := w.heap.size) (by have := HWS.out; have : W.heap.size ≤ g3 := hD3; omega) (.int .i64 x.f0) (.string x.f1) (.int .i64 x.f2))).trans v2
    generalize ((w3.setCell ⟨g3, j * 3, none⟩ (.int .i64 x.f0)).setCell ⟨g3, j * 3 + 1, none⟩ (.string x.f1)).setCell ⟨g3, j * 3 + 2, none⟩ (.int .i64 x.f2) = Y at hx1 hx2 hkp hr2 hg2 v2' ⊢
    clear v0 v1 v2 k0 k1 k2 x0 x1 x2 e0 e3 e4 a0 a1 a2 b0 b1 b2
    have v2 := v2'
    have rr0 := (kcl hg2 0).trans (show _ = some (Value.slice (some ⟨gb, 0, none⟩) n c) from rfl)
    have c0 : Y.cell? ⟨b9, 0, none⟩ = some (.int .i64 o.f0) := hx1.ce 0 _ rfl
    have c1' : Y.cell? ⟨b9, 1, none⟩ = some (.string o.f1) := hx1.ce 1 _ rfl
    have c2' : Y.cell? ⟨b9, 2, none⟩ = some (.int .i64 o.f2) := hx1.ce 2 _ rfl
    have c3' : Y.cell? ⟨b9, 3, none⟩ = some (.slice (some ⟨g3, 0, none⟩) m3 d3) := hx1.ce 3 _ rfl
    have c4' : Y.cell? ⟨b9, 4, none⟩ = some (.slice B4 m4 d4) := hx1.ce 4 _ rfl
    have c5' : Y.cell? ⟨b9, 5, none⟩ = some (.slice B5 m5 d5) := hx1.ce 5 _ rfl
    have c6' : Y.cell? ⟨b9, 6, none⟩ = some (.slice B6 m6 d6) := hx1.ce 6 _ rfl
    obtain ⟨cs, hcl, -, hcc, hff⟩ := Kd.R_elem hr2 z46 (v.f2.toNat : Int) (by omega) (by omega)
    have e7 : k46.sz = 7 := rfl
    rw [e7, show (v.f2.toNat : Int).toNat = v.f2.toNat from rfl] at hcc hff
    rw [e7] at hcl
    have t0 := hcc 0 (cs[0]'(by omega)) (List.getElem?_eq_getElem (by omega))
    have t1 := hcc 1 (cs[1]'(by omega)) (List.getElem?_eq_getElem (by omega))
    have t2 := hcc 2 (cs[2]'(by omega)) (List.getElem?_eq_getElem (by omega))
    have t3 := hcc 3 (cs[3]'(by omega)) (List.getElem?_eq_getElem (by omega))
    have t4 := hcc 4 (cs[4]'(by omega)) (List.getElem?_eq_getElem (by omega))
    have t5 := hcc 5 (cs[5]'(by omega)) (List.getElem?_eq_getElem (by omega))
    have t6 := hcc 6 (cs[6]'(by omega)) (List.getElem?_eq_getElem (by omega))
    have u0 := hff 0
    have u1 := hff 1
    have u2 := hff 2
    have u3 := hff 3
    have u4 := hff 4
    have u5 := hff 5
    have u6 := hff 6
    rw [Nat.add_zero] at t0 u0
    have hput := put_obj (ok := ok) (Kd.R_mono hr2 (fun _ hq => hq.1)) hrn hx1 (fun q hq => ⟨HOKN.out q (by have := HWS.out; have hq' : W.heap.size ≤ q := hq; omega), by have := (hr2.1 gb rfl).2; have := HWS.out; have hq' : W.heap.size ≤ q := hq; omega⟩)
    dsimp only at hput
    have HPUT := Aside0.mk hput
    have HKP := Aside0.mk hkp
    clear hput hkp hcc hff e7 hx1 hx2 hr2 hg2 v2'
    go_region
    go_wp2_with fail
    go_ret
    have hput := HPUT.out
    generalize ((((((Y.setCell ⟨gb, v.f2.toNat * 7, none⟩ (.int .i64 o.f0)).setCell ⟨gb, v.f2.toNat * 7 + 1, none⟩ (.string o.f1)).setCell ⟨gb, v.f2.toNat * 7 + 2, none⟩ (.int .i64 o.f2)).setCell ⟨gb, v.f2.toNat * 7 + 3, none⟩ (.slice (some ⟨g3, 0, none⟩) m3 d3)).setCell ⟨gb, v.f2.toNat * 7 + 4, none⟩ (.slice B4 m4 d4)).setCell ⟨gb, v.f2.toNat * 7 + 5, none⟩ (.slice B5 m5 d5)).setCell ⟨gb, v.f2.toNat * 7 + 6, none⟩ (.slice B6 m6 d6) = Z at hput ⊢
    exact ⟨rfl, Kd.R_drew hput.1, (HKP.out.grown hput.2 (fun q hq _ => (Option.some.inj hq).symm)).below (below_drew (Below.refl _ _))⟩
  | dn r o h1 h2 h3 h4 h5 h6 h7 =>
    obtain ⟨o2, ad, A3, c3, A4, c4, A5, c5, A6, c6, hx, hA, g0, g1, g2, g3, g4, g5, g6, q3, q4, q5, q6⟩ := obj_at hC r (by have := (List.getElem?_eq_some_iff.1 h3).1; have := hC.1; omega)
    obtain rfl : o = o2 := Option.some.inj (h3.symm.trans hx)
    obtain rfl := Option.some.inj hA
    have ho3 := (hol o (List.mem_of_getElem? h3)).1
    have ho4 := (hol o (List.mem_of_getElem? h3)).2.1
    have ho5 := (hol o (List.mem_of_getElem? h3)).2.2.1
    have ho6 := (hol o (List.mem_of_getElem? h3)).2.2.2
    have hrn : r < n := by have := (List.getElem?_eq_some_iff.1 h3).1; have := hC.1; omega
    obtain rfl : r = v.f2.toNat := by omega
    have h2a : 0 ≤ v.f2 := by omega
    have h2b : v.f2 < (n : Int) := by omega
    have HOBJ := Aside0.mk (obj_ref g ⟨gb, 0, none⟩ n c v o A3 c3 A4 c4 A5 c5 A6 c6 W HG.out h1 h2a h2b hn ⟨g0, g1, g2, g3, g4, g5, g6, q3.2, q4.2⟩)
    have HCP := Aside0.mk (fun (X : World) (hb : Below W.heap.size W X) => copyA_w o A3 o.f3.length c3 A4 o.f4.length c4 A5 o.f5.length c5 A6 o.f6.length c6 X (Kd.C_below q3.2 hb) (Kd.C_below q4.2 hb) (Kd.C_below q5.2 hb) (Kd.C_below q6.2 hb) ho3 ho4 ho5 ho6)
    clear hx g0 g1 g2 g3 g4 g5 g6 q3 q4 q5 q6 h2 hC hol hki hbl
    have hkind : (o.f0 == 1) = false := by simp [h4]
    have hkind2 : (o.f0 == 2) = true := by simp [h4]
    have HHA := Aside0.mk (show spec_hashable.f k.f0 k.f1 k.f2 = some true by unfold spec_hashable.f; simp [h5])
    have HIX := Aside0.mk h6
    have H60 := Aside0.mk h7
    clear h1 h3 h4 h5 h6 h7
    go_enter Try.func77, Try.ntmps77
    go_upto_region 1 with (fail)
    rw [← HW.out]
    go_upto_region 3 with (first | (go_at_call 119; refine HOBJ.out.mono ?_; rintro e w1 ⟨rfl, hB⟩; have HB1 := Aside0.mk hB; replace BX := Aside0.mk (BX.out.below hB); clear v0 v1 v2 k0 k1 k2 x0 x1 x2; obtain ⟨v0, v1, v2, k0, k1, k2, x0, x1, x2, -⟩ := BX.out; replace HR := Aside0.mk (Kd.R_below HR.out hB); replace HG := Aside0.mk (show Rr _ g (some ⟨gb, 0, none⟩) n c from kbw HG.out hB); clear hB) | (go_at_call 122; refine (HCP.out _ HB1.out).mono ?_; rintro e w2 ⟨u3, u4, u5, u6, rfl, r3, r4, r5, r6, hB, hap⟩; obtain ⟨B3, m3, d3, rfl⟩ := sform r3; obtain ⟨B4, m4, d4, rfl⟩ := sform r4; obtain ⟨B5, m5, d5, rfl⟩ := sform r5; obtain ⟨B6, m6, d6, rfl⟩ := sform r6; have hm3 := (Kd.R_reads' r3).1; have hm4 := (Kd.R_reads' r4).1; have HM3 := Aside0.mk hm3; have HM4 := Aside0.mk hm4; have hsz := HB1.out.size; have HWB9 := Aside0.mk (Nat.le_trans HB1.out.size hB.size); have HCE := Aside0.mk (fun (W2 : World) hW2 => el_box (w := W) (W2 := W2) hsz r3 r4 r5 r6 hap hW2); replace BX := Aside0.mk (BX.out.below hB); clear v0 v1 v2 k0 k1 k2 x0 x1 x2; obtain ⟨v0, v1, v2, k0, k1, k2, x0, x1, x2, -⟩ := BX.out; replace HR := Aside0.mk (Kd.R_below HR.out hB); replace HG := Aside0.mk (show Rr _ g (some ⟨gb, 0, none⟩) n c from kbw HG.out hB); clear hB hm3 hm4 hap r3 r4 r5 r6 hsz))
    obtain ⟨W2, hW2⟩ : ∃ W2 : World, W2 = w2.alloc (.cells #[.int .i64 o.f0, .string o.f1, .int .i64 o.f2, .slice B3 m3 d3, .slice B4 m4 d4, .slice B5 m5 d5, .slice B6 m6 d6] 46) := ⟨_, rfl⟩
    obtain ⟨hel, hot⟩ := HCE.out W2 hW2
    have hB : Below w2.heap.size w2 W2 := by rw [hW2]; exact bla (Below.refl _ _) _
    rw [← hW2]
    obtain ⟨b9, hb9⟩ : ∃ b9, b9 = w2.heap.size := ⟨_, rfl⟩
    rw [← hb9] at hel hot HWB9 ⊢
    have EX := Aside0.mk hel
    have OX := Aside0.mk hot
    replace BX := Aside0.mk (BX.out.below hB)
    clear v0 v1 v2 k0 k1 k2 x0 x1 x2
    obtain ⟨v0, v1, v2, k0, k1, k2, x0, x1, x2, -⟩ := BX.out
    replace HR := Aside0.mk (Kd.R_below HR.out hB)
    replace HG := Aside0.mk (show Rr _ g (some ⟨gb, 0, none⟩) n c from kbw HG.out hB)
    have e0 := EX.out.ce 0 _ rfl
    have e3 := EX.out.ce 3 _ rfl
    have e4 := EX.out.ce 4 _ rfl
    have hm3 : m3 ≤ 1000 := by have := HM3.out; omega
    have hm4 : m4 ≤ 1000 := by have := HM4.out; omega
    clear hel hot hB hW2 hb9 HCE HB1 ho3 ho4 ho5 ho6
    have hd60 : decide ((60 : Int) ≤ (m4 : Int)) = true := decide_eq_true (by have := H60.out; have := HM4.out; omega)
    go_wp2_with (first | (go_at_call 121; refine (spec_hashable.calls _ _ _ true _ HHA.out).mono ?_; rintro e w3 ⟨rfl, hB⟩; replace BX := Aside0.mk (BX.out.below hB); clear v0 v1 v2 k0 k1 k2 x0 x1 x2; obtain ⟨v0, v1, v2, k0, k1, k2, x0, x1, x2, -⟩ := BX.out; replace HR := Aside0.mk (Kd.R_below HR.out hB); replace HG := Aside0.mk (show Rr _ g (some ⟨gb, 0, none⟩) n c from kbw HG.out hB); replace EX := Aside0.mk (EX.out.below OX.out.lt hB); replace OX := Aside0.mk (OX.out.below hB EX.out.notgb); clear e0 e3 e4; have e0 := EX.out.ce 0 _ rfl; have e3 := EX.out.ce 3 _ rfl; have e4 := EX.out.ce 4 _ rfl; clear hB) | (go_at_call 89; refine (keyAtV_w _ _ _ _ _ _ _ (show Kd.C k35 _ B4 m4 o.f4 from by obtain ⟨e1, -, e2⟩ := Kd.R_reads' EX.out.r4; rw [← e1] at e2; exact e2) (by omega) HIX.out).mono ?_; rintro e w4 ⟨rfl, hB⟩; replace BX := Aside0.mk (BX.out.below hB); clear v0 v1 v2 k0 k1 k2 x0 x1 x2; obtain ⟨v0, v1, v2, k0, k1, k2, x0, x1, x2, -⟩ := BX.out; replace HR := Aside0.mk (Kd.R_below HR.out hB); replace HG := Aside0.mk (show Rr _ g (some ⟨gb, 0, none⟩) n c from kbw HG.out hB); replace EX := Aside0.mk (EX.out.below OX.out.lt hB); replace OX := Aside0.mk (OX.out.below hB EX.out.notgb); clear e0 e3 e4; have e0 := EX.out.ce 0 _ rfl; have e3 := EX.out.ce 3 _ rfl; have e4 := EX.out.ce 4 _ rfl; clear hB))
    go_ret
    exact ⟨rfl, Kd.R_mono HR.out (fun _ hq => hq.1), Kp.of BX.out.bl⟩
  | da r o h1 h2 h3 h4 h5 h6 h7 =>
    obtain ⟨o2, ad, A3, c3, A4, c4, A5, c5, A6, c6, hx, hA, g0, g1, g2, g3, g4, g5, g6, q3, q4, q5, q6⟩ := obj_at hC r (by have := (List.getElem?_eq_some_iff.1 h3).1; have := hC.1; omega)
    obtain rfl : o = o2 := Option.some.inj (h3.symm.trans hx)
    obtain rfl := Option.some.inj hA
    have ho3 := (hol o (List.mem_of_getElem? h3)).1
    have ho4 := (hol o (List.mem_of_getElem? h3)).2.1
    have ho5 := (hol o (List.mem_of_getElem? h3)).2.2.1
    have ho6 := (hol o (List.mem_of_getElem? h3)).2.2.2
    have hrn : r < n := by have := (List.getElem?_eq_some_iff.1 h3).1; have := hC.1; omega
    obtain rfl : r = v.f2.toNat := by omega
    have h2a : 0 ≤ v.f2 := by omega
    have h2b : v.f2 < (n : Int) := by omega
    have HOBJ := Aside0.mk (obj_ref g ⟨gb, 0, none⟩ n c v o A3 c3 A4 c4 A5 c5 A6 c6 W HG.out h1 h2a h2b hn ⟨g0, g1, g2, g3, g4, g5, g6, q3.2, q4.2⟩)
    have HCP := Aside0.mk (fun (X : World) (hb : Below W.heap.size W X) => copyA_w o A3 o.f3.length c3 A4 o.f4.length c4 A5 o.f5.length c5 A6 o.f6.length c6 X (Kd.C_below q3.2 hb) (Kd.C_below q4.2 hb) (Kd.C_below q5.2 hb) (Kd.C_below q6.2 hb) ho3 ho4 ho5 ho6)
    clear hx g0 g1 g2 g3 g4 g5 g6 q3 q4 q5 q6 h2 hC hol hki hbl
    have hkind : (o.f0 == 1) = false := by simp [h4]
    have hkind2 : (o.f0 == 2) = true := by simp [h4]
    have HHA := Aside0.mk (show spec_hashable.f k.f0 k.f1 k.f2 = some true by unfold spec_hashable.f; simp [h5])
    have HIX := Aside0.mk h6
    have H60 := Aside0.mk h7
    clear h1 h3 h4 h5 h6 h7
    go_enter Try.func77, Try.ntmps77
    go_upto_region 1 with (fail)
    rw [← HW.out]
    go_upto_region 3 with (first | (go_at_call 119; refine HOBJ.out.mono ?_; rintro e w1 ⟨rfl, hB⟩; have HB1 := Aside0.mk hB; replace BX := Aside0.mk (BX.out.below hB); clear v0 v1 v2 k0 k1 k2 x0 x1 x2; obtain ⟨v0, v1, v2, k0, k1, k2, x0, x1, x2, -⟩ := BX.out; replace HR := Aside0.mk (Kd.R_below HR.out hB); replace HG := Aside0.mk (show Rr _ g (some ⟨gb, 0, none⟩) n c from kbw HG.out hB); clear hB) | (go_at_call 122; refine (HCP.out _ HB1.out).mono ?_; rintro e w2 ⟨u3, u4, u5, u6, rfl, r3, r4, r5, r6, hB, hap⟩; obtain ⟨B3, m3, d3, rfl⟩ := sform r3; obtain ⟨B4, m4, d4, rfl⟩ := sform r4; obtain ⟨B5, m5, d5, rfl⟩ := sform r5; obtain ⟨B6, m6, d6, rfl⟩ := sform r6; have hm3 := (Kd.R_reads' r3).1; have hm4 := (Kd.R_reads' r4).1; have HM3 := Aside0.mk hm3; have HM4 := Aside0.mk hm4; have hsz := HB1.out.size; have HWB9 := Aside0.mk (Nat.le_trans HB1.out.size hB.size); have HCE := Aside0.mk (fun (W2 : World) hW2 => el_box (w := W) (W2 := W2) hsz r3 r4 r5 r6 hap hW2); replace BX := Aside0.mk (BX.out.below hB); clear v0 v1 v2 k0 k1 k2 x0 x1 x2; obtain ⟨v0, v1, v2, k0, k1, k2, x0, x1, x2, -⟩ := BX.out; replace HR := Aside0.mk (Kd.R_below HR.out hB); replace HG := Aside0.mk (show Rr _ g (some ⟨gb, 0, none⟩) n c from kbw HG.out hB); clear hB hm3 hm4 hap r3 r4 r5 r6 hsz))
    obtain ⟨W2, hW2⟩ : ∃ W2 : World, W2 = w2.alloc (.cells #[.int .i64 o.f0, .string o.f1, .int .i64 o.f2, .slice B3 m3 d3, .slice B4 m4 d4, .slice B5 m5 d5, .slice B6 m6 d6] 46) := ⟨_, rfl⟩
    obtain ⟨hel, hot⟩ := HCE.out W2 hW2
    have hB : Below w2.heap.size w2 W2 := by rw [hW2]; exact bla (Below.refl _ _) _
    rw [← hW2]
    obtain ⟨b9, hb9⟩ : ∃ b9, b9 = w2.heap.size := ⟨_, rfl⟩
    rw [← hb9] at hel hot HWB9 ⊢
    have EX := Aside0.mk hel
    have OX := Aside0.mk hot
    replace BX := Aside0.mk (BX.out.below hB)
    clear v0 v1 v2 k0 k1 k2 x0 x1 x2
    obtain ⟨v0, v1, v2, k0, k1, k2, x0, x1, x2, -⟩ := BX.out
    replace HR := Aside0.mk (Kd.R_below HR.out hB)
    replace HG := Aside0.mk (show Rr _ g (some ⟨gb, 0, none⟩) n c from kbw HG.out hB)
    have e0 := EX.out.ce 0 _ rfl
    have e3 := EX.out.ce 3 _ rfl
    have e4 := EX.out.ce 4 _ rfl
    have hm3 : m3 ≤ 1000 := by have := HM3.out; omega
    have hm4 : m4 ≤ 1000 := by have := HM4.out; omega
    clear hel hot hB hW2 hb9 HCE HB1 ho3 ho4 ho5 ho6
    have hd60 : decide ((60 : Int) ≤ (m4 : Int)) = false := decide_eq_false (by have := H60.out; have := HM4.out; omega)
    go_upto_region 15 with (first | (go_at_call 121; refine (spec_hashable.calls _ _ _ true _ HHA.out).mono ?_; rintro e w3 ⟨rfl, hB⟩; replace BX := Aside0.mk (BX.out.below hB); clear v0 v1 v2 k0 k1 k2 x0 x1 x2; obtain ⟨v0, v1, v2, k0, k1, k2, x0, x1, x2, -⟩ := BX.out; replace HR := Aside0.mk (Kd.R_below HR.out hB); replace HG := Aside0.mk (show Rr _ g (some ⟨gb, 0, none⟩) n c from kbw HG.out hB); replace EX := Aside0.mk (EX.out.below OX.out.lt hB); replace OX := Aside0.mk (OX.out.below hB EX.out.notgb); clear e0 e3 e4; have e0 := EX.out.ce 0 _ rfl; have e3 := EX.out.ce 3 _ rfl; have e4 := EX.out.ce 4 _ rfl; clear hB) | (go_at_call 89; refine (keyAtV_w _ _ _ _ _ _ _ (show Kd.C k35 _ B4 m4 o.f4 from by obtain ⟨e1, -, e2⟩ := Kd.R_reads' EX.out.r4; rw [← e1] at e2; exact e2) (by omega) HIX.out).mono ?_; rintro e w4 ⟨rfl, hB⟩; replace BX := Aside0.mk (BX.out.below hB); clear v0 v1 v2 k0 k1 k2 x0 x1 x2; obtain ⟨v0, v1, v2, k0, k1, k2, x0, x1, x2, -⟩ := BX.out; replace HR := Aside0.mk (Kd.R_below HR.out hB); replace HG := Aside0.mk (show Rr _ g (some ⟨gb, 0, none⟩) n c from kbw HG.out hB); replace EX := Aside0.mk (EX.out.below OX.out.lt hB); replace OX := Aside0.mk (OX.out.below hB EX.out.notgb); clear e0 e3 e4; have e0 := EX.out.ce 0 _ rfl; have e3 := EX.out.ce 3 _ rfl; have e4 := EX.out.ce 4 _ rfl; clear hB) | ((with_reducible refine gate_builtin (b := .append) (xs := #[.tmp 61, .tmp 63]) rfl ?_); at_builtin; refine Kd.R_append k35 (w0 := _) 0 rfl (.tmp 61) (.tmp 63) 26 35 (.agg #[(.int .i64 0), (.string ⟨#[]⟩), (.int .i64 0)]) 32 rfl Try.underlying26 info35 rfl (by decide) (by omega) (.slice B4 m4 d4) o.f4 k [.int .i64 k.f0, .string k.f1, .int .i64 k.f2] (fun q => q ≠ b9 ∧ W.heap.size ≤ q) (fun _ => False) rfl (by rfl) ?aP (fun _ hk => hk.elim) ?aF EX.out.r4 (Below.refl _ _) ?aS ?aL ?_; (case aP => exact k35_mkM _ _ _ k); (case aF => exact fun q hq => ⟨by have := OX.out.lt; omega, by have := HWB9.out; have := OX.out.lt; omega⟩); (case aS => exact Nat.zero_le _); (case aL => have := HM4.out; omega); intro v1 w13 ho _ hg hat; obtain ⟨A5, n5, c5, rfl⟩ := sform ho; have hgne : some b9 ≠ (Value.slice B4 m4 d4).ownBlock := fun e => (EX.out.r4.1 b9 e.symm).1 rfl; have ec : w13.cell? ⟨b9, 4, none⟩ = _ := (World.cell?_of_block (a := ⟨b9, 0 * 7 + 4, none⟩) (hg.block b9 OX.out.lt hgne)).trans (EX.out.ce 4 _ rfl); have ef : w13.frozen? ⟨b9, 4, none⟩ = false := (World.frozen?_of_block (a := ⟨b9, 0 * 7 + 4, none⟩) (hg.block b9 OX.out.lt hgne)).trans (EX.out.fz 4)))
    have HKP := Aside0.mk (Kp.of (Q := fun q => q = gb) BX.out.bl)
    obtain ⟨hx1, hx2⟩ := EX.out.growKeys OX.out ho hg hat
    have hx1' : El (w13.setCell ⟨b9, 4, none⟩ (.slice A5 n5 c5)) b9 0 _ _ _ _ _ _ := hx1
    have hx2' : Ot (w13.setCell ⟨b9, 4, none⟩ (.slice A5 n5 c5)) b9 1 [o] 0 _ _ := hx2
    have hlow : ∀ q, q < W.heap.size → (w13.setCell ⟨b9, 4, none⟩ (.slice A5 n5 c5)).heap[q]? = w4.heap[q]? := fun q hq => by
      rw [Below.heap_setCell _ _ _ _ (by show q ≠ b9; have := HWB9.out; omega)]
      exact hg.block q (by have := HWB9.out; have := OX.out.lt; omega) (fun e => by have h2 : W.heap.size ≤ q := (EX.out.r4.1 q e.symm).2; omega)
    have hkp := (HKP.out.grown hg (fun q hq hlt => by exfalso; have h2 : W.heap.size ≤ q := (EX.out.r4.1 q hq).2; have := HWS.out; omega)).set ⟨b9, 4, none⟩ (fun hq => by exfalso; have hq' : b9 < w.heap.size := hq; have := HWB9.out; have := HWS.out; omega) (.slice A5 n5 c5)
    have hr2 := Kd.R_move (w1 := w13.setCell ⟨b9, 4, none⟩ (.slice A5 n5 c5)) HR.out (fun q hq => hlow q (by have := hq.2; have := HWS.out; omega))
    have hg2 : Rr (w13.setCell ⟨b9, 4, none⟩ (.slice A5 n5 c5)) g (some ⟨gb, 0, none⟩) n c := (hlow g (by have := HGL.out; have := HWS.out; omega)).trans HG.out
    have v2' := (World.cell?_of_block (a := ⟨w.heap.size, 2, none⟩) (hlow w.heap.size (by have := HWS.out; omega))).trans v2
    have x0' := (World.cell?_of_block (a := ⟨w.heap.size + 1 + 1, 0, none⟩) (hlow (w.heap.size + 1 + 1) HWS.out)).trans x0
    have x1' := (World.cell?_of_block (a := ⟨w.heap.size + 1 + 1, 1, none⟩) (hlow (w.heap.size + 1 + 1) HWS.out)).trans x1
    have x2' := (World.cell?_of_block (a := ⟨w.heap.size + 1 + 1, 2, none⟩) (hlow (w.heap.size + 1 + 1) HWS.out)).trans x2
    clear hx1 hx2 hlow
    generalize w13.setCell ⟨b9, 4, none⟩ (.slice A5 n5 c5) = Y at hx1' hx2' hkp hr2 hg2 v2' x0' x1' x2' ⊢
    clear v0 v1 v2 k0 k1 k2 x0 x1 x2 e0 e3 e4 ho hg hat hgne ec ef
    have v2 := v2'
    have x0 := x0'
    have x1 := x1'
    have x2 := x2'
    clear v2' x0' x1' x2'
    replace EX := Aside0.mk hx1'
    replace OX := Aside0.mk hx2'
    replace HR := Aside0.mk hr2
    replace HG := Aside0.mk hg2
    replace HKP := Aside0.mk hkp
    have e3 : Y.cell? ⟨b9, 3, none⟩ = some (.slice B3 m3 d3) := EX.out.ce 3 _ rfl
    clear hx1' hx2' hr2 hg2 hkp
    obtain ⟨Y1, hY1⟩ : ∃ Y1, Y1 = Y := ⟨_, rfl⟩
    rw [← hY1] at EX OX HR HG HKP e3 v2 x0 x1 x2 ⊢
    clear hY1
    go_upto_region 16 with (first | ((with_reducible refine gate_builtin (b := .append) (xs := #[.tmp 67, .tmp 69]) rfl ?_); at_builtin; refine Kd.R_append k35 (w0 := _) 0 rfl (.tmp 67) (.tmp 69) 26 35 (.agg #[(.int .i64 0), (.string ⟨#[]⟩), (.int .i64 0)]) 32 rfl Try.underlying26 info35 rfl (by decide) (by omega) (.slice B3 m3 d3) o.f3 x [.int .i64 x.f0, .string x.f1, .int .i64 x.f2] (fun q => q ≠ b9 ∧ W.heap.size ≤ q) (fun _ => False) rfl (by rfl) ?aP (fun _ hk => hk.elim) ?aF EX.out.r3 (Below.refl _ _) ?aS ?aL ?_; (case aP => exact k35_mkM _ _ _ x); (case aF => exact fun q hq => ⟨by have := OX.out.lt; omega, by have := HWB9.out; have := OX.out.lt; omega⟩); (case aS => exact Nat.zero_le _); (case aL => have := HM3.out; omega); intro v1 w15 ho _ hg hat; obtain ⟨A6, n6, c6, rfl⟩ := sform ho; have hgne : some b9 ≠ (Value.slice B3 m3 d3).ownBlock := fun e => (EX.out.r3.1 b9 e.symm).1 rfl; have ec : w15.cell? ⟨b9, 3, none⟩ = _ := (World.cell?_of_block (a := ⟨b9, 0 * 7 + 3, none⟩) (hg.block b9 OX.out.lt hgne)).trans (EX.out.ce 3 _ rfl); have ef : w15.frozen? ⟨b9, 3, none⟩ = false := (World.frozen?_of_block (a := ⟨b9, 0 * 7 + 3, none⟩) (hg.block b9 OX.out.lt hgne)).trans (EX.out.fz 3)))
    obtain ⟨hx1, hx2⟩ := EX.out.growItems OX.out ho hg hat
    have hx1' : El (w15.setCell ⟨b9, 3, none⟩ (.slice A6 n6 c6)) b9 0 _ _ _ _ _ _ := hx1
    have hx2' : Ot (w15.setCell ⟨b9, 3, none⟩ (.slice A6 n6 c6)) b9 1 [o] 0 _ _ := hx2
    have hlow : ∀ q, q < W.heap.size → (w15.setCell ⟨b9, 3, none⟩ (.slice A6 n6 c6)).heap[q]? = Y1.heap[q]? := fun q hq => by
      rw [Below.heap_setCell _ _ _ _ (by show q ≠ b9; have := HWB9.out; omega)]
      exact hg.block q (by have := HWB9.out; have := OX.out.lt; omega) (fun e => by have h2 : W.heap.size ≤ q := (EX.out.r3.1 q e.symm).2; omega)
    have hkp := (HKP.out.grown hg (fun q hq hlt => by exfalso; have h2 : W.heap.size ≤ q := (EX.out.r3.1 q hq).2; have := HWS.out; omega)).set ⟨b9, 3, none⟩ (fun hq => by exfalso; have hq' : b9 < w.heap.size := hq; have := HWB9.out; have := HWS.out; omega) (.slice A6 n6 c6)
    have hr2 := Kd.R_move (w1 := w15.setCell ⟨b9, 3, none⟩ (.slice A6 n6 c6)) HR.out (fun q hq => hlow q (by have := hq.2; have := HWS.out; omega))
    have hg2 : Rr (w15.setCell ⟨b9, 3, none⟩ (.slice A6 n6 c6)) g (some ⟨gb, 0, none⟩) n c := (hlow g (by have := HGL.out; have := HWS.out; omega)).trans HG.out
    have v2' := (World.cell?_of_block (a := ⟨w.heap.size, 2, none⟩) (hlow w.heap.size (by have := HWS.out; omega))).trans v2
    have x0' := (World.cell?_of_block (a := ⟨w.heap.size + 1 + 1, 0, none⟩) (hlow (w.heap.size + 1 + 1) HWS.out)).trans x0
    have x1' := (World.cell?_of_block (a := ⟨w.heap.size + 1 + 1, 1, none⟩) (hlow (w.heap.size + 1 + 1) HWS.out)).trans x1
    have x2' := (World.cell?_of_block (a := ⟨w.heap.size + 1 + 1, 2, none⟩) (hlow (w.heap.size + 1 + 1) HWS.out)).trans x2
    clear hx1 hx2 hlow
    generalize w15.setCell ⟨b9, 3, none⟩ (.slice A6 n6 c6) = Y at hx1' hx2' hkp hr2 hg2 v2' x0' x1' x2' ⊢
    have hx1 := hx1'
    have hx2 := hx2'
    clear hx1' hx2' v2 x0 x1 x2 x0' x1' x2' e3 ho hg hat hgne ec ef
    have v2 := v2'
    have rr0 := (kcl hg2 0).trans (show _ = some (Value.slice (some ⟨gb, 0, none⟩) n c) from rfl)
    have c0 : Y.cell? ⟨b9, 0, none⟩ = some (.int .i64 o.f0) := hx1.ce 0 _ rfl
    have c1' : Y.cell? ⟨b9, 1, none⟩ = some (.string o.f1) := hx1.ce 1 _ rfl
    have c2' : Y.cell? ⟨b9, 2, none⟩ = some (.int .i64 o.f2) := hx1.ce 2 _ rfl
    have c3' : Y.cell? ⟨b9, 3, none⟩ = some (.slice A6 n6 c6) := hx1.ce 3 _ rfl
    have c4' : Y.cell? ⟨b9, 4, none⟩ = some (.slice A5 n5 c5) := hx1.ce 4 _ rfl
    have c5' : Y.cell? ⟨b9, 5, none⟩ = some (.slice B5 m5 d5) := hx1.ce 5 _ rfl
    have c6' : Y.cell? ⟨b9, 6, none⟩ = some (.slice B6 m6 d6) := hx1.ce 6 _ rfl
    obtain ⟨cs, hcl, -, hcc, hff⟩ := Kd.R_elem hr2 z46 (v.f2.toNat : Int) (by omega) (by omega)
    have e7 : k46.sz = 7 := rfl
    rw [e7, show (v.f2.toNat : Int).toNat = v.f2.toNat from rfl] at hcc hff
    rw [e7] at hcl
    have t0 := hcc 0 (cs[0]'(by omega)) (List.getElem?_eq_getElem (by omega))
    have t1 := hcc 1 (cs[1]'(by omega)) (List.getElem?_eq_getElem (by omega))
    have t2 := hcc 2 (cs[2]'(by omega)) (List.getElem?_eq_getElem (by omega))
    have t3 := hcc 3 (cs[3]'(by omega)) (List.getElem?_eq_getElem (by omega))
    have t4 := hcc 4 (cs[4]'(by omega)) (List.getElem?_eq_getElem (by omega))
    have t5 := hcc 5 (cs[5]'(by omega)) (List.getElem?_eq_getElem (by omega))
    have t6 := hcc 6 (cs[6]'(by omega)) (List.getElem?_eq_getElem (by omega))
    have u0 := hff 0
    have u1 := hff 1
    have u2 := hff 2
    have u3 := hff 3
    have u4 := hff 4
    have u5 := hff 5
    have u6 := hff 6
    rw [Nat.add_zero] at t0 u0
    have hput := put_obj (ok := ok) (Kd.R_mono hr2 (fun _ hq => hq.1)) hrn hx1 (fun q hq => ⟨HOKN.out q (by have := HWS.out; have hq' : W.heap.size ≤ q := hq; omega), by have := (hr2.1 gb rfl).2; have := HWS.out; have hq' : W.heap.size ≤ q := hq; omega⟩)
    dsimp only at hput
    have HPUT := Aside0.mk hput
    have HKP := Aside0.mk hkp
    clear hput hkp hcc hff e7 hx1 hx2 hr2 hg2 v2'
    go_region
    go_wp2_with fail
    go_ret
    have hput := HPUT.out
    generalize ((((((Y.setCell ⟨gb, v.f2.toNat * 7, none⟩ (.int .i64 o.f0)).setCell ⟨gb, v.f2.toNat * 7 + 1, none⟩ (.string o.f1)).setCell ⟨gb, v.f2.toNat * 7 + 2, none⟩ (.int .i64 o.f2)).setCell ⟨gb, v.f2.toNat * 7 + 3, none⟩ (.slice A6 n6 c6)).setCell ⟨gb, v.f2.toNat * 7 + 4, none⟩ (.slice A5 n5 c5)).setCell ⟨gb, v.f2.toNat * 7 + 5, none⟩ (.slice B5 m5 d5)).setCell ⟨gb, v.f2.toNat * 7 + 6, none⟩ (.slice B6 m6 d6) = Z at hput ⊢
    exact ⟨rfl, Kd.R_drew hput.1, (HKP.out.grown hput.2 (fun q hq _ => (Option.some.inj hq).symm)).below (below_drew (Below.refl _ _))⟩
  | xo r o h1 h2 h3 h4 h5 =>
    obtain ⟨o2, ad, A3, c3, A4, c4, A5, c5, A6, c6, hx, hA, g0, g1, g2, g3, g4, g5, g6, q3, q4, q5, q6⟩ := obj_at hC r (by have := (List.getElem?_eq_some_iff.1 h3).1; have := hC.1; omega)
    obtain rfl : o = o2 := Option.some.inj (h3.symm.trans hx)
    obtain rfl := Option.some.inj hA
    have ho3 := (hol o (List.mem_of_getElem? h3)).1
    have ho4 := (hol o (List.mem_of_getElem? h3)).2.1
    have ho5 := (hol o (List.mem_of_getElem? h3)).2.2.1
    have ho6 := (hol o (List.mem_of_getElem? h3)).2.2.2
    have hrn : r < n := by have := (List.getElem?_eq_some_iff.1 h3).1; have := hC.1; omega
    obtain rfl : r = v.f2.toNat := by omega
    have h2a : 0 ≤ v.f2 := by omega
    have h2b : v.f2 < (n : Int) := by omega
    have HOBJ := Aside0.mk (obj_ref g ⟨gb, 0, none⟩ n c v o A3 c3 A4 c4 A5 c5 A6 c6 W HG.out h1 h2a h2b hn ⟨g0, g1, g2, g3, g4, g5, g6, q3.2, q4.2⟩)
    have HCP := Aside0.mk (fun (X : World) (hb : Below W.heap.size W X) => copyA_w o A3 o.f3.length c3 A4 o.f4.length c4 A5 o.f5.length c5 A6 o.f6.length c6 X (Kd.C_below q3.2 hb) (Kd.C_below q4.2 hb) (Kd.C_below q5.2 hb) (Kd.C_below q6.2 hb) ho3 ho4 ho5 ho6)
    clear hx g0 g1 g2 g3 g4 g5 g6 q3 q4 q5 q6 h2 hC hol hki hbl
    have hkind : (o.f0 == 1) = false := by simpa using h4
    have hkind2 : (o.f0 == 2) = false := by simpa using h5
    clear h1 h3 h4 h5
    go_enter Try.func77, Try.ntmps77
    go_upto_region 1 with (fail)
    rw [← HW.out]
    go_upto_region 3 with (first | (go_at_call 119; refine HOBJ.out.mono ?_; rintro e w1 ⟨rfl, hB⟩; have HB1 := Aside0.mk hB; replace BX := Aside0.mk (BX.out.below hB); clear v0 v1 v2 k0 k1 k2 x0 x1 x2; obtain ⟨v0, v1, v2, k0, k1, k2, x0, x1, x2, -⟩ := BX.out; replace HR := Aside0.mk (Kd.R_below HR.out hB); replace HG := Aside0.mk (show Rr _ g (some ⟨gb, 0, none⟩) n c from kbw HG.out hB); clear hB) | (go_at_call 122; refine (HCP.out _ HB1.out).mono ?_; rintro e w2 ⟨u3, u4, u5, u6, rfl, r3, r4, r5, r6, hB, hap⟩; obtain ⟨B3, m3, d3, rfl⟩ := sform r3; obtain ⟨B4, m4, d4, rfl⟩ := sform r4; obtain ⟨B5, m5, d5, rfl⟩ := sform r5; obtain ⟨B6, m6, d6, rfl⟩ := sform r6; have hm3 := (Kd.R_reads' r3).1; have hm4 := (Kd.R_reads' r4).1; have HM3 := Aside0.mk hm3; have HM4 := Aside0.mk hm4; have hsz := HB1.out.size; have HWB9 := Aside0.mk (Nat.le_trans HB1.out.size hB.size); have HCE := Aside0.mk (fun (W2 : World) hW2 => el_box (w := W) (W2 := W2) hsz r3 r4 r5 r6 hap hW2); replace BX := Aside0.mk (BX.out.below hB); clear v0 v1 v2 k0 k1 k2 x0 x1 x2; obtain ⟨v0, v1, v2, k0, k1, k2, x0, x1, x2, -⟩ := BX.out; replace HR := Aside0.mk (Kd.R_below HR.out hB); replace HG := Aside0.mk (show Rr _ g (some ⟨gb, 0, none⟩) n c from kbw HG.out hB); clear hB hm3 hm4 hap r3 r4 r5 r6 hsz))
    obtain ⟨W2, hW2⟩ : ∃ W2 : World, W2 = w2.alloc (.cells #[.int .i64 o.f0, .string o.f1, .int .i64 o.f2, .slice B3 m3 d3, .slice B4 m4 d4, .slice B5 m5 d5, .slice B6 m6 d6] 46) := ⟨_, rfl⟩
    obtain ⟨hel, hot⟩ := HCE.out W2 hW2
    have hB : Below w2.heap.size w2 W2 := by rw [hW2]; exact bla (Below.refl _ _) _
    rw [← hW2]
    obtain ⟨b9, hb9⟩ : ∃ b9, b9 = w2.heap.size := ⟨_, rfl⟩
    rw [← hb9] at hel hot HWB9 ⊢
    have EX := Aside0.mk hel
    have OX := Aside0.mk hot
    replace BX := Aside0.mk (BX.out.below hB)
    clear v0 v1 v2 k0 k1 k2 x0 x1 x2
    obtain ⟨v0, v1, v2, k0, k1, k2, x0, x1, x2, -⟩ := BX.out
    replace HR := Aside0.mk (Kd.R_below HR.out hB)
    replace HG := Aside0.mk (show Rr _ g (some ⟨gb, 0, none⟩) n c from kbw HG.out hB)
    have e0 := EX.out.ce 0 _ rfl
    have e3 := EX.out.ce 3 _ rfl
    have e4 := EX.out.ce 4 _ rfl
    have hm3 : m3 ≤ 1000 := by have := HM3.out; omega
    have hm4 : m4 ≤ 1000 := by have := HM4.out; omega
    clear hel hot hB hW2 hb9 HCE HB1 ho3 ho4 ho5 ho6
    go_wp2_with fail
    go_ret
    exact ⟨rfl, Kd.R_mono HR.out (fun _ hq => hq.1), Kp.of BX.out.bl⟩
  | xv h1 =>
    have HOBJ := Aside0.mk (obj_no g v W h1)
    have nC : ∀ {α : Type} {d : Kd α} (X : World), Kd.C d X none 0 [] := fun X => ⟨rfl, by decide, fun h => absurd h (by decide)⟩
    have HCP := Aside0.mk (fun (X : World) (_ : Below W.heap.size W X) => (show Calls Try.prog 122 #[.agg #[.int .i64 0, .string ⟨#[]⟩, .int .i64 0, .slice none 0 0, .slice none 0 0, .slice none 0 0, .slice none 0 0]] X (OPostA X z46) from copyA_w z46 none 0 0 none 0 0 none 0 0 none 0 0 X (nC X) (nC X) (nC X) (nC X) (by decide) (by decide) (by decide) (by decide)))
    have hkind : (z46.f0 == 1) = false := rfl
    have hkind2 : (z46.f0 == 2) = false := rfl
    clear h1 nC hC hol hki hbl
    go_enter Try.func77, Try.ntmps77
    go_upto_region 1 with (fail)
    rw [← HW.out]
    go_upto_region 3 with (first | (go_at_call 119; refine HOBJ.out.mono ?_; rintro e w1 ⟨rfl, hB⟩; have HB1 := Aside0.mk hB; replace BX := Aside0.mk (BX.out.below hB); clear v0 v1 v2 k0 k1 k2 x0 x1 x2; obtain ⟨v0, v1, v2, k0, k1, k2, x0, x1, x2, -⟩ := BX.out; replace HR := Aside0.mk (Kd.R_below HR.out hB); replace HG := Aside0.mk (show Rr _ g (some ⟨gb, 0, none⟩) n c from kbw HG.out hB); clear hB) | (go_at_call 122; refine (HCP.out _ HB1.out).mono ?_; rintro e w2 ⟨u3, u4, u5, u6, rfl, r3, r4, r5, r6, hB, hap⟩; obtain ⟨B3, m3, d3, rfl⟩ := sform r3; obtain ⟨B4, m4, d4, rfl⟩ := sform r4; obtain ⟨B5, m5, d5, rfl⟩ := sform r5; obtain ⟨B6, m6, d6, rfl⟩ := sform r6; have hm3 := (Kd.R_reads' r3).1; have hm4 := (Kd.R_reads' r4).1; have HM3 := Aside0.mk hm3; have HM4 := Aside0.mk hm4; have hsz := HB1.out.size; have HWB9 := Aside0.mk (Nat.le_trans HB1.out.size hB.size); have HCE := Aside0.mk (fun (W2 : World) hW2 => el_box (w := W) (W2 := W2) hsz r3 r4 r5 r6 hap hW2); replace BX := Aside0.mk (BX.out.below hB); clear v0 v1 v2 k0 k1 k2 x0 x1 x2; obtain ⟨v0, v1, v2, k0, k1, k2, x0, x1, x2, -⟩ := BX.out; replace HR := Aside0.mk (Kd.R_below HR.out hB); replace HG := Aside0.mk (show Rr _ g (some ⟨gb, 0, none⟩) n c from kbw HG.out hB); clear hB hm3 hm4 hap r3 r4 r5 r6 hsz))
    obtain ⟨W2, hW2⟩ : ∃ W2 : World, W2 = w2.alloc (.cells #[.int .i64 z46.f0, .string z46.f1, .int .i64 z46.f2, .slice B3 m3 d3, .slice B4 m4 d4, .slice B5 m5 d5, .slice B6 m6 d6] 46) := ⟨_, rfl⟩
    obtain ⟨hel, hot⟩ := HCE.out W2 hW2
    have hB : Below w2.heap.size w2 W2 := by rw [hW2]; exact bla (Below.refl _ _) _
    rw [← hW2]
    obtain ⟨b9, hb9⟩ : ∃ b9, b9 = w2.heap.size := ⟨_, rfl⟩
    rw [← hb9] at hel hot HWB9 ⊢
    have EX := Aside0.mk hel
    have OX := Aside0.mk hot
    replace BX := Aside0.mk (BX.out.below hB)
    clear v0 v1 v2 k0 k1 k2 x0 x1 x2
    obtain ⟨v0, v1, v2, k0, k1, k2, x0, x1, x2, -⟩ := BX.out
    replace HR := Aside0.mk (Kd.R_below HR.out hB)
    replace HG := Aside0.mk (show Rr _ g (some ⟨gb, 0, none⟩) n c from kbw HG.out hB)
    have e0 := EX.out.ce 0 _ rfl
    have e3 := EX.out.ce 3 _ rfl
    have e4 := EX.out.ce 4 _ rfl
    clear hel hot hB hW2 hb9 HCE HB1
    go_wp2_with fail
    go_ret
    exact ⟨rfl, Kd.R_mono HR.out (fun _ hq => hq.1), Kp.of BX.out.bl⟩
end Go.Proofs.Ytgddblpgbkgpcaa.PR
namespace Go.Proofs.Ytgddblpgbkgpcaa.PR
set_option linter.unusedVariables false
set_option linter.unusedSimpArgs false
open Go.RowKit Go.Proofs.YtgddblpgbkgpcaaW.PrintWords Go.Proofs.YtgddblpgbkgpcaaW.PrintLast Go.Proofs.YtgddblpgbkgpcaaW.PrintMore
set_option linter.unusedVariables false
set_option linter.unusedSimpArgs false
structure Hd (w wi : World) (u v : Value) (l : List S46) : Prop where
  bl : Below w.heap.size w wi
  c0 : wi.heap[w.heap.size]? = some (.cells #[u] 25 (0, 0))
  c1 : wi.heap[w.heap.size + 1]? = some (.cells #[.slice none 0 0] 25 (0, 0))
  c2 : wi.heap[w.heap.size + 1 + 1]? = some (.cells #[v] 25 (0, 0))
  hr : k46.R 46 wi (w.heap.size + 3) (fun _ => True) v l
section
variable {w wi w1 : World} {u v : Value} {l : List S46}
theorem Hd.below (h : Hd w wi u v l) (hb : Below wi.heap.size wi w1) : Hd w w1 u v l := ⟨bst h.bl hb, kbw h.c0 hb, kbw h.c1 hb, kbw h.c2 hb, Kd.R_below h.hr hb⟩
theorem Hd.grow (h : Hd w wi u v l) (hg : wi.grownBy w1 v.ownBlock) : Below w.heap.size w w1 ∧ w1.heap[w.heap.size]? = some (.cells #[u] 25 (0, 0)) ∧ w1.heap[w.heap.size + 1]? = some (.cells #[.slice none 0 0] 25 (0, 0)) ∧ w1.heap[w.heap.size + 1 + 1]? = some (.cells #[v] 25 (0, 0)) := by
  have hb := Kd.R_base h.hr
  have ne : ∀ k, k < w.heap.size + 3 → some k ≠ v.ownBlock := fun k hk e => by have := hb k e.symm; omega
  exact ⟨pw_below_grown h.bl _ h.bl.size hg (fun k hk => by have := hb k hk; omega), kgr h.c0 hg (ne _ (by omega)), kgr h.c1 hg (ne _ (by omega)), kgr h.c2 hg (ne _ (by omega))⟩
end
theorem Hd.fin {w w1 : World} {u v v1 : Value} {l : List S46} (hb : Below w.heap.size w w1) (h0 : w1.heap[w.heap.size]? = some (.cells #[u] 25 (0, 0))) (h1 : w1.heap[w.heap.size + 1]? = some (.cells #[.slice none 0 0] 25 (0, 0))) (h2 : w1.heap[w.heap.size + 1 + 1]? = some (.cells #[v] 25 (0, 0))) (hr : k46.R 46 w1 (w.heap.size + 3) (fun _ => True) v1 l) :
    Hd w (w1.setCell ⟨w.heap.size + 1 + 1, 0, none⟩ v1) u v1 l :=
  ⟨hb.setCell (show w.heap.size ≤ w.heap.size + 1 + 1 by omega) _, blk_far h0 (by simp; omega) _, blk_far h1 (by simp) _, blk_put h2 0 _ rfl, Kd.R_mono (Kd.R_far (Kd.R_bound hr) (fun k hk => by have := hk.2.1; simp; omega) _) (fun _ _ => trivial)⟩
set_option maxRecDepth 100000 in
set_option maxHeartbeats 40000000 in
theorem copy76_w (A : Option Addr) (n c : Nat) (l : List S46) (w : World) (hC : Kd.C k46 w A n l) (hn : n ≤ 1000) (hol : ∀ o ∈ l, oL o) :
    Calls Try.prog 76 #[.agg #[.slice A n c]] w (HPost w l) := by
  have HC := Aside0.mk hC
  have HOL := Aside0.mk hol
  have HNL := Lib.hid (show l.length = n from hC.1)
  clear hC hol
  go_enter Try.func76, Try.ntmps76
  go_wp2_with fail
  have HS := Aside0.mk (show Hd w (((w.alloc (.cells #[.slice A n c] 25)).alloc (.cells #[.slice none 0 0] 25)).alloc (.cells #[.slice none 0 0] 25)) (.slice A n c) (.slice none 0 0) [] from by
    have e1 := blk_new (w.alloc (.cells #[.slice A n c] 25)) (.cells #[.slice none 0 0] 25)
    have e2 := blk_new ((w.alloc (.cells #[.slice A n c] 25)).alloc (.cells #[.slice none 0 0] 25)) (.cells #[.slice none 0 0] 25)
    rw [show (w.alloc (.cells #[.slice A n c] 25)).heap.size = w.heap.size + 1 by simp] at e1
    rw [show ((w.alloc (.cells #[.slice A n c] 25)).alloc (.cells #[.slice none 0 0] 25)).heap.size = w.heap.size + 1 + 1 by simp] at e2
    exact ⟨bla (bla (bla (Below.refl _ _) _) _) _, kla (kla (blk_new _ _) _) _, kla e1 _, e2, Kd.R_nil _ _ _ _ _⟩)
  go_loopw [4] (fun u4 wr => ∃ (k : Nat) (A1 : Option Addr) (n1 c1 : Nat), u4 = .int .i64 k ∧ k ≤ n ∧ Aside0 (Hd w wr (.slice A n c) (.slice A1 n1 c1) (l.take k))) (fun u4 _ => n - (intOf u4).toNat)
  case atStart => exact ⟨0, none, 0, 0, rfl, Nat.zero_le _, ⟨HS.out⟩⟩
  case round =>
    clear HS
    obtain ⟨k, A1, n1, c1, rfl, hkn, HQ⟩ := hrel
    have qb0 := (kcl HQ.out.c0 0).trans (show _ = some (.slice A n c) from rfl)
    by_cases hk : k < n
    · obtain ⟨x, ad, A3, c3, A4, c4, A5, c5, A6, c6, hx, hA, g0, g1, g2, g3, g4, g5, g6, h3, h4, h5, h6⟩ := obj_at (Kd.C_below HC.out HQ.out.bl) k hk
      have HXO := Aside0.mk (HOL.out x (List.mem_of_getElem? hx))
      have HX := Lib.hid hx
      have HCL := Aside0.mk (fun (W' : World) (hb : Below wr.heap.size wr W') => copy122_w x A3 x.f3.length c3 A4 x.f4.length c4 A5 x.f5.length c5 A6 x.f6.length c6 W' (Kd.C_below h3.2 hb) (Kd.C_below h4.2 hb) (Kd.C_below h5.2 hb) (Kd.C_below h6.2 hb) HXO.out.1 HXO.out.2.1 HXO.out.2.2.1 HXO.out.2.2.2)
      subst hA
      clear hx h3 h4 h5 h6
      have qb := qb0
      have HC5 := HQ
      have HQ0 := Aside0.mk (show w.heap.size + 3 ≤ wr.heap.size by have := blk_lt HC5.out.c2; omega)
      have HNN := Aside0.mk (Kd.R_lt HC5.out.hr)
      go_wp2_with fail
      have q := (kcl HC5.out.c2 0).trans (show _ = some (.slice A1 n1 c1) from rfl)
      have hq0 : Below wr.heap.size wr wr.drew := below_drew (Below.refl _ _)
      refine start_ (n := 12) (S := fun w' => w'.cell? ⟨w.heap.size + 1 + 1, 0, none⟩ = some (.slice A1 n1 c1) ∧ w'.cell? ⟨w.heap.size, 0, none⟩ = some (.slice (some ad) n c) ∧ w'.cell? (ad.add (k * 7)) = some (.int .i64 x.f0) ∧ w'.cell? ⟨(ad.add (k * 7)).block, (ad.add (k * 7)).off + 1, none⟩ = some (.string x.f1) ∧ w'.cell? ⟨(ad.add (k * 7)).block, (ad.add (k * 7)).off + 2, none⟩ = some (.int .i64 x.f2) ∧ w'.cell? ⟨(ad.add (k * 7)).block, (ad.add (k * 7)).off + 3, none⟩ = some (.slice A3 x.f3.length c3) ∧ w'.cell? ⟨(ad.add (k * 7)).block, (ad.add (k * 7)).off + 4, none⟩ = some (.slice A4 x.f4.length c4) ∧ w'.cell? ⟨(ad.add (k * 7)).block, (ad.add (k * 7)).off + 5, none⟩ = some (.slice A5 x.f5.length c5) ∧ w'.cell? ⟨(ad.add (k * 7)).block, (ad.add (k * 7)).off + 6, none⟩ = some (.slice A6 x.f6.length c6)) (ds := [9, 11]) #[false, false, false, false, false, false, false, false, false, false, false, false] (by kernel_rfl) rfl rfl ⟨B.cell_keep hq0 q, B.cell_keep hq0 qb, B.cell_keep hq0 g0, B.cell_keep hq0 g1, B.cell_keep hq0 g2, B.cell_keep hq0 g3, B.cell_keep hq0 g4, B.cell_keep hq0 g5, B.cell_keep hq0 g6⟩ (fun hHeld => ?_)
      generalize wr.drew = w10 at hq0 hHeld ⊢
      refine pure_ (i := 0) (N := some 13) (v := ?_) (a' := ?_) #[true, false, false, false, false, false, false, false, false, false, false, false] rfl rfl (by kernel_rfl) (fun _ _ _ h => h) (Or.inl ⟨by rfl, ?_⟩) ?_ ?_
      rotate_left
      · intro w'
        go_simp
        with_reducible rfl
      rotate_left
      · simp only [Act.put, List.setIfInBounds_toArray, List.set_cons_zero, List.set_cons_succ, i64_w, i32_w]
        rfl
      refine pure_ (i := 2) (N := some 15) (v := ?_) (a' := ?_) #[true, false, true, false, false, false, false, false, false, false, false, false] rfl rfl (by kernel_rfl) (fun _ _ _ h => h) (Or.inl ⟨by rfl, ?_⟩) ?_ ?_
      rotate_left
      · intro w'
        go_simp
        with_reducible rfl
      rotate_left
      · simp only [Act.put, List.setIfInBounds_toArray, List.set_cons_zero, List.set_cons_succ, i64_w, i32_w]
        rfl
      refine pure_ (i := 4) (N := some 17) (v := ?_) (a' := ?_) #[true, false, true, false, true, false, false, false, false, false, false, false] rfl rfl (by kernel_rfl) (fun _ _ _ h => h) (Or.inl ⟨by rfl, ?_⟩) ?_ ?_
      rotate_left
      · intro w'
        go_simp
        with_reducible rfl
      rotate_left
      · simp only [Act.put, List.setIfInBounds_toArray, List.set_cons_zero, List.set_cons_succ, i64_w, i32_w]
        rfl
      refine take_ (i := 1) (N := some 14) (v := ?_) (a' := ?_) #[true, true, true, false, true, false, false, false, false, false, false, false] rfl rfl (by kernel_rfl) (fun _ _ _ h => h) (Or.inl ⟨by rfl, ?_⟩) hHeld ?_ ?_
      rotate_left
      · rintro w' ⟨s0, s1, s2, s3, s4, s5, s6, s7, s8⟩
        go_simp
        with_reducible rfl
      rotate_left
      · simp only [Act.put, List.setIfInBounds_toArray, List.set_cons_zero, List.set_cons_succ, i64_w, i32_w]
        rfl
      refine take_ (i := 3) (N := some 16) (v := ?_) (a' := ?_) #[true, true, true, true, true, false, false, false, false, false, false, false] rfl rfl (by kernel_rfl) (fun _ _ _ h => h) (Or.inl ⟨by rfl, ?_⟩) hHeld ?_ ?_
      rotate_left
      · rintro w' ⟨s0, s1, s2, s3, s4, s5, s6, s7, s8⟩
        go_simp
        with_reducible rfl
      rotate_left
      · simp only [Act.put, List.setIfInBounds_toArray, List.set_cons_zero, List.set_cons_succ, i64_w, i32_w]
        rfl
      refine pure_ (i := 5) (N := some 18) (v := ?_) (a' := ?_) #[true, true, true, true, true, true, false, false, false, false, false, false] rfl rfl (by kernel_rfl) (fun _ _ _ h => h) (Or.inl ⟨by rfl, ?_⟩) ?_ ?_
      rotate_left
      · intro w'
        go_simp
        with_reducible rfl
      rotate_left
      · simp only [Act.put, List.setIfInBounds_toArray, List.set_cons_zero, List.set_cons_succ, i64_w, i32_w]
        rfl
      refine take_ (i := 6) (N := some 19) (v := ?_) (a' := ?_) #[true, true, true, true, true, true, true, false, false, false, false, false] rfl rfl (by kernel_rfl) (fun _ _ _ h => h) (Or.inl ⟨by rfl, ?_⟩) hHeld ?_ ?_
      rotate_left
      · rintro w' ⟨s0, s1, s2, s3, s4, s5, s6, s7, s8⟩
        go_simp
        with_reducible rfl
      rotate_left
      · simp only [Act.put, List.setIfInBounds_toArray, List.set_cons_zero, List.set_cons_succ, i64_w, i32_w]
        rfl
      refine one_ (i := 7) (N := some 20) #[true, true, true, true, true, true, true, true, false, false, false, false] rfl rfl (by kernel_rfl) (by decide) (fun K hK => ?_)
      refine goes_ Try.func122 (by kernel_rfl) rfl #[.agg #[.int .i64 x.f0, .string x.f1, .int .i64 x.f2, .slice A3 x.f3.length c3, .slice A4 x.f4.length c4, .slice A5 x.f5.length c5, .slice A6 x.f6.length c6]] (by rfl) rfl rfl (by simp only [List.map_toArray, List.map_cons, List.map_nil]; rfl) ?_
      with_reducible refine (HCL.out _ hq0).mono ?_
      rintro e w12 ⟨v3, v4, v5, v6, rfl, hr3, hr4, hr5, hr6, hb⟩
      refine ⟨_, rfl, ?_⟩
      have hq1 := bth hq0 hq0.size hb
      refine hK.out _ _ ⟨B.cell_keep hq1 q, B.cell_keep hq1 qb, B.cell_keep hq1 g0, B.cell_keep hq1 g1, B.cell_keep hq1 g2, B.cell_keep hq1 g3, B.cell_keep hq1 g4, B.cell_keep hq1 g5, B.cell_keep hq1 g6⟩ (fun hHeld => ?_)
      clear hK K
      refine norm_ (a' := ?_) ?_ ?_
      rotate_left
      · show Act.put _ (some 20) _ = _
        simp only [Act.put, List.setIfInBounds_toArray, List.set_cons_zero, List.set_cons_succ, i64_w, i32_w]
        rfl
      refine one_ (i := 8) (N := some 21) #[true, true, true, true, true, true, true, true, true, false, false, false] rfl rfl (by kernel_rfl) (by decide) (fun K hK => ?_)
      refine value_ (w1 := ?_) (v := ?_) (by rfl) rfl ?_ ?_
      rotate_left 2
      · go_simp
        constructor
        · rfl
        · rfl
      have hq2 := bla hq1 (.cells #[.int .i64 x.f0, .string x.f1, .int .i64 x.f2, v3, v4, v5, v6] 46)
      refine hK.out _ _ ⟨B.cell_keep hq2 q, B.cell_keep hq2 qb, B.cell_keep hq2 g0, B.cell_keep hq2 g1, B.cell_keep hq2 g2, B.cell_keep hq2 g3, B.cell_keep hq2 g4, B.cell_keep hq2 g5, B.cell_keep hq2 g6⟩ (fun hHeld => ?_)
      clear hK K
      refine norm_ (a' := ?_) ?_ ?_
      rotate_left
      · show Act.put _ (some 21) _ = _
        simp only [Act.put, List.setIfInBounds_toArray, List.set_cons_zero, List.set_cons_succ, i64_w, i32_w]
        rfl
      refine last_ (i := 9) (N := some 22) #[true, true, true, true, true, true, true, true, true, true, false, false] rfl rfl (by kernel_rfl) (by decide) (fun K hK => ?_)
      have hc12 := HC5.out.below hq1
      refine Kd.R_append_step k46 (w0 := w12) (w.heap.size + 3) (by rfl) (.tmp 14) (.tmp 21) 23 46 (.agg #[(.int .i64 0), (.string ⟨#[]⟩), (.int .i64 0), (.slice none 0 0), (.slice none 0 0), (.slice none 0 0), (.slice none 0 0)]) 128 rfl Try.underlying23 info46 rfl (by decide) (by omega) (.slice A1 n1 c1) (l.take k) x [.int .i64 x.f0, .string x.f1, .int .i64 x.f2, v3, v4, v5, v6] (fun _ => True) (fun k => w10.heap.size ≤ k) rfl rfl ?aP ?aQ ?aF ?aO ?aB ?aS ?aL ?_
      case aP => exact new_obj hr3 hr4 hr5 hr6 (by have := blk_lt hc12.c2; omega) (by have := HQ0.out; have := hq0.size; omega)
      case aQ => exact fun k hk => ⟨trivial, fun e => by have := HNN.out k e.symm; have := hq0.size; omega⟩
      case aF => exact fun k hk => trivial
      case aO => exact hc12.hr
      case aB => exact Below.refl _ _
      case aS => have := blk_lt hc12.c2; omega
      case aL => rw [List.length_take]; omega
      intro v1 w13 ho _ hg _
      have hp := hc12.grow hg
      obtain ⟨A2, n2, c2, rfl⟩ := sform ho
      have hq2' := (kcl hp.2.2.2 0).trans (show _ = some (.slice A1 n1 c1) from rfl)
      have hf2' := kfz hp.2.2.2 0
      have HPUT := Aside0.mk (Hd.fin hp.1 hp.2.1 hp.2.2.1 hp.2.2.2 ho)
      refine hK.out _ _ ?_
      clear hK K
      refine norm_ (a' := ?_) ?_ ?_
      rotate_left
      · show Act.put _ (some 22) _ = _
        simp only [Act.put, List.setIfInBounds_toArray, List.set_cons_zero, List.set_cons_succ, i64_w, i32_w]
        rfl
      refine pure_ (i := 10) (N := some 23) (v := ?_) (a' := ?_) #[true, true, true, true, true, true, true, true, true, true, true, false] rfl rfl (by kernel_rfl) (fun _ _ _ h => h) (Or.inl ⟨by rfl, ?_⟩) ?_ ?_
      rotate_left
      · intro w'
        go_simp
        with_reducible rfl
      rotate_left
      · simp only [Act.put, List.setIfInBounds_toArray, List.set_cons_zero, List.set_cons_succ, i64_w, i32_w]
        rfl
      refine last_ (i := 11) (N := none) #[true, true, true, true, true, true, true, true, true, true, true, true] rfl rfl (by kernel_rfl) (by decide) (fun K hK => ?_)
      refine skip_ (w1 := ?_) (by rfl) rfl ?_ ?_
      rotate_left
      · go_simp
        rfl
      refine hK.out _ _ ?_
      clear hK K
      refine done_ (by kernel_rfl) ?_
      go_wp2_with fail
      go_roundw
      case rel => exact ⟨k + 1, A2, n2, c2, by go_num, hk, ⟨by rw [take_snoc46 HX.out]; exact HPUT.out⟩⟩
      case measure => simp [intOf]; omega
    · have q2 := (kcl HQ.out.c2 0).trans (show _ = some (.slice A1 n1 c1) from rfl)
      have q1 := (kcl HQ.out.c1 0).trans (show _ = some (.slice none 0 0) from rfl)
      have qf := kfz HQ.out.c1 0
      have hkn' : l.take k = l := List.take_of_length_le (by have := HNL.out; omega)
      have HT := Lib.hid hkn'
      clear hkn'
      go_wp2_with fail
      refine bodyPost_ret (v := .agg #[.slice A1 n1 c1]) (B.res_c rfl _ _ (w.heap.size + 1) 25 _ (0, 0) _ rfl (blk_put HQ.out.c1 0 _ rfl) Try.underlying25 rfl rfl) rfl ⟨_, rfl, ?_, HQ.out.bl.setCell (show w.heap.size ≤ w.heap.size + 1 by omega) _⟩
      have h := Kd.R_far (Kd.R_bound HQ.out.hr) (p := ⟨w.heap.size + 1, 0, none⟩) (fun k hk => by have := hk.2.1; simp; omega) (.slice A1 n1 c1)
      rw [HT.out] at h
      exact Kd.R_mono (Kd.R_lower h (by omega)) (fun _ _ => trivial)
end Go.Proofs.Ytgddblpgbkgpcaa.PR
namespace Go.Proofs.Ytgddblpgbkgpcaa.PR
set_option linter.unusedVariables false
set_option linter.unusedSimpArgs false
open Go.RowKit Go.Proofs.YtgddblpgbkgpcaaW.PrintWords Go.Proofs.YtgddblpgbkgpcaaW.PrintLast Go.Proofs.YtgddblpgbkgpcaaW.PrintMore
set_option linter.unusedVariables false
set_option linter.unusedSimpArgs false
set_option maxRecDepth 100000 in
set_option maxHeartbeats 4000000 in
theorem doSetS_w (A : Option Addr) (n c : Nat) (l l' : List S46) (v k x : S35) (cc : Int) (w : World) (hC : Kd.C k46 w A n l) (hc : n ≤ c) (hn : n ≤ 1000) (hn0 : 0 < n) (hob : ∀ o ∈ l, oB o = true) (hv5 : v.f1.size ≤ 5) (hk5 : k.f1.size ≤ 5) (hx5 : x.f1.size ≤ 5) (h : Ds l v k x l' cc) :
    Calls Try.prog 38 #[.agg #[.slice A n c], .agg #[.int .i64 v.f0, .string v.f1, .int .i64 v.f2], .agg #[.int .i64 k.f0, .string k.f1, .int .i64 k.f2], .agg #[.int .i64 x.f0, .string x.f1, .int .i64 x.f2]] w (DTPost w l' cc) := by
  obtain ⟨W, hW⟩ : ∃ W : World, W = ((((w.alloc (.cells #[.slice A n c] 25)).alloc (.cells #[.int .i64 v.f0, .string v.f1, .int .i64 v.f2] 35)).alloc (.cells #[.int .i64 k.f0, .string k.f1, .int .i64 k.f2] 35)).alloc (.cells #[.int .i64 x.f0, .string x.f1, .int .i64 x.f2] 35)).alloc (.cells #[.slice none 0 0] 25) := ⟨_, rfl⟩
  have hb0 : Below ((((w.alloc (.cells #[.slice A n c] 25)).alloc (.cells #[.int .i64 v.f0, .string v.f1, .int .i64 v.f2] 35)).alloc (.cells #[.int .i64 k.f0, .string k.f1, .int .i64 k.f2] 35)).alloc (.cells #[.int .i64 x.f0, .string x.f1, .int .i64 x.f2] 35)).heap.size ((((w.alloc (.cells #[.slice A n c] 25)).alloc (.cells #[.int .i64 v.f0, .string v.f1, .int .i64 v.f2] 35)).alloc (.cells #[.int .i64 k.f0, .string k.f1, .int .i64 k.f2] 35)).alloc (.cells #[.int .i64 x.f0, .string x.f1, .int .i64 x.f2] 35)) W := by rw [hW]; exact bla (Below.refl _ _) _
  have hz := blk_new ((((w.alloc (.cells #[.slice A n c] 25)).alloc (.cells #[.int .i64 v.f0, .string v.f1, .int .i64 v.f2] 35)).alloc (.cells #[.int .i64 k.f0, .string k.f1, .int .i64 k.f2] 35)).alloc (.cells #[.int .i64 x.f0, .string x.f1, .int .i64 x.f2] 35)) (.cells #[.slice none 0 0] 25)
  rw [← hW, World.size_alloc, World.size_alloc, World.size_alloc, World.size_alloc] at hz
  have BX := Aside0.mk ((bw_new w n c A v k x _ rfl).below hb0)
  have BZ := Aside0.mk hz
  have HC := Aside0.mk (Kd.C_below hC BX.out.bl)
  have hl := hC.1
  have HL := Aside0.mk hl
  have hol : ∀ o ∈ l, oL o := fun o ho => (show oL o from by obtain ⟨-, h3, h4, h5, h6, -⟩ := oB_facts (hob o ho); exact ⟨by omega, by omega, by omega, by omega⟩)
  have hVS : ∀ y ∈ [v, k, x], y.f1.size ≤ 100 := by
    intro y hy
    simp only [List.mem_cons, List.not_mem_nil, or_false] at hy
    rcases hy with rfl | rfl | rfl <;> omega
  have h30 := validHeap_k (w := W) c HC.out hob (by omega)
  have HVv := Aside0.mk (fun (X : World) => (show Calls Try.prog 63 #[.agg #[.int .i64 v.f0, .string v.f1, .int .i64 v.f2], .int .i64 n] X fun e w' => e = .returned (.bool (B.valOk n (tV v))) ∧ Below X.heap.size X w' from B.validValue_ok n (by omega) (tV v) (by show v.f1.size ≤ _; omega) X))
  have HVk := Aside0.mk (fun (X : World) => (show Calls Try.prog 63 #[.agg #[.int .i64 k.f0, .string k.f1, .int .i64 k.f2], .int .i64 n] X fun e w' => e = .returned (.bool (B.valOk n (tV k))) ∧ Below X.heap.size X w' from B.validValue_ok n (by omega) (tV k) (by show k.f1.size ≤ _; omega) X))
  have HVx := Aside0.mk (fun (X : World) => (show Calls Try.prog 63 #[.agg #[.int .i64 x.f0, .string x.f1, .int .i64 x.f2], .int .i64 n] X fun e w' => e = .returned (.bool (B.valOk n (tV x))) ∧ Below X.heap.size X w' from B.validValue_ok n (by omega) (tV x) (by show x.f1.size ≤ _; omega) X))
  have HCL := Aside0.mk (fun (X : World) (hX : Kd.C k46 X A n l) => copy76_w A n c l X hX hn hol)
  have HW := Lib.hid hW
  obtain ⟨p0, v0, v1, v2, k0, k1, k2, x0, x1, x2, -⟩ := BX.out
  have zc := (kcl hz 0).trans (show _ = some (.slice none 0 0) from rfl)
  have zf := kfz hz 0
  unfold Ds at h
  rw [okB_eq, hl, okV_three] at h
  clear hW hb0 hz hC hc hVS
  cases hH : okH l
  · rw [hH] at h h30
    have HH := Aside0.mk h30
    obtain ⟨rfl, rfl⟩ : l' = [] ∧ cc = 10 := by rcases h with h | h; exact h.2; simp at h
    clear hH h30 h
    go_enter Try.func38, Try.ntmps38
    go_upto_region 1 with (fail)
    rw [← HW.out]
    go_wp2_with (first | (go_at_call 55; refine HH.out.mono ?_; rintro e w1 ⟨rfl, hB⟩; replace BX := Aside0.mk (BX.out.below hB); replace BZ := Aside0.mk (kbw BZ.out hB); clear p0 v0 v1 v2 k0 k1 k2 x0 x1 x2 zc zf; obtain ⟨p0, v0, v1, v2, k0, k1, k2, x0, x1, x2, -⟩ := BX.out; have zc := (kcl BZ.out 0).trans (show _ = some (.slice none 0 0) from rfl); have zf := kfz BZ.out 0; replace HC := Aside0.mk (Kd.C_below HC.out hB); clear hB))
    refine bodyPost_ret (B.res_ct rfl _ _ (w.heap.size + 1 + 1 + 1 + 1) 25 _ (0, 0) _ rfl (blk_put BZ.out 0 _ rfl) Try.underlying25 rfl (by kernel_rfl)) rfl ⟨none, 0, 0, rfl, ⟨rfl, by decide, fun h => absurd h (by decide)⟩, Nat.le_refl _, BX.out.bl.setCell (show w.heap.size ≤ w.heap.size + 1 + 1 + 1 + 1 by omega) _⟩
  · rw [hH, Bool.true_and] at h
    rw [hH] at h30
    have HH := Aside0.mk h30
    clear hH h30
    cases hV : B.valOk n (tV v)
    · rw [hV] at h HVv
      obtain ⟨rfl, rfl⟩ : l' = [] ∧ cc = 10 := by rcases h with h | h; exact h.2; simp at h
      clear hV h
      go_enter Try.func38, Try.ntmps38
      go_upto_region 1 with (fail)
      rw [← HW.out]
      go_wp2_with (first | (go_at_call 55; refine HH.out.mono ?_; rintro e w1 ⟨rfl, hB⟩; replace BX := Aside0.mk (BX.out.below hB); replace BZ := Aside0.mk (kbw BZ.out hB); clear p0 v0 v1 v2 k0 k1 k2 x0 x1 x2 zc zf; obtain ⟨p0, v0, v1, v2, k0, k1, k2, x0, x1, x2, -⟩ := BX.out; have zc := (kcl BZ.out 0).trans (show _ = some (.slice none 0 0) from rfl); have zf := kfz BZ.out 0; replace HC := Aside0.mk (Kd.C_below HC.out hB); clear hB) | (go_at_call 63; with_reducible refine (HVv.out _).mono ?_; rintro e w1v ⟨rfl, hB⟩; replace BX := Aside0.mk (BX.out.below hB); replace BZ := Aside0.mk (kbw BZ.out hB); clear p0 v0 v1 v2 k0 k1 k2 x0 x1 x2 zc zf; obtain ⟨p0, v0, v1, v2, k0, k1, k2, x0, x1, x2, -⟩ := BX.out; have zc := (kcl BZ.out 0).trans (show _ = some (.slice none 0 0) from rfl); have zf := kfz BZ.out 0; replace HC := Aside0.mk (Kd.C_below HC.out hB); clear hB))
      refine bodyPost_ret (B.res_ct rfl _ _ (w.heap.size + 1 + 1 + 1 + 1) 25 _ (0, 0) _ rfl (blk_put BZ.out 0 _ rfl) Try.underlying25 rfl (by kernel_rfl)) rfl ⟨none, 0, 0, rfl, ⟨rfl, by decide, fun h => absurd h (by decide)⟩, Nat.le_refl _, BX.out.bl.setCell (show w.heap.size ≤ w.heap.size + 1 + 1 + 1 + 1 by omega) _⟩
    · rw [hV] at h HVv
      cases hK : B.valOk n (tV k)
      · rw [hK] at h HVk
        obtain ⟨rfl, rfl⟩ : l' = [] ∧ cc = 10 := by rcases h with h | h; exact h.2; simp at h
        clear hV hK h
        go_enter Try.func38, Try.ntmps38
        go_upto_region 1 with (fail)
        rw [← HW.out]
        go_wp2_with (first | (go_at_call 55; refine HH.out.mono ?_; rintro e w1 ⟨rfl, hB⟩; replace BX := Aside0.mk (BX.out.below hB); replace BZ := Aside0.mk (kbw BZ.out hB); clear p0 v0 v1 v2 k0 k1 k2 x0 x1 x2 zc zf; obtain ⟨p0, v0, v1, v2, k0, k1, k2, x0, x1, x2, -⟩ := BX.out; have zc := (kcl BZ.out 0).trans (show _ = some (.slice none 0 0) from rfl); have zf := kfz BZ.out 0; replace HC := Aside0.mk (Kd.C_below HC.out hB); clear hB) | (go_at_call 63; with_reducible refine (HVv.out _).mono ?_; rintro e w1v ⟨rfl, hB⟩; replace BX := Aside0.mk (BX.out.below hB); replace BZ := Aside0.mk (kbw BZ.out hB); clear p0 v0 v1 v2 k0 k1 k2 x0 x1 x2 zc zf; obtain ⟨p0, v0, v1, v2, k0, k1, k2, x0, x1, x2, -⟩ := BX.out; have zc := (kcl BZ.out 0).trans (show _ = some (.slice none 0 0) from rfl); have zf := kfz BZ.out 0; replace HC := Aside0.mk (Kd.C_below HC.out hB); clear hB) | (go_at_call 63; with_reducible refine (HVk.out _).mono ?_; rintro e w1k ⟨rfl, hB⟩; replace BX := Aside0.mk (BX.out.below hB); replace BZ := Aside0.mk (kbw BZ.out hB); clear p0 v0 v1 v2 k0 k1 k2 x0 x1 x2 zc zf; obtain ⟨p0, v0, v1, v2, k0, k1, k2, x0, x1, x2, -⟩ := BX.out; have zc := (kcl BZ.out 0).trans (show _ = some (.slice none 0 0) from rfl); have zf := kfz BZ.out 0; replace HC := Aside0.mk (Kd.C_below HC.out hB); clear hB))
        refine bodyPost_ret (B.res_ct rfl _ _ (w.heap.size + 1 + 1 + 1 + 1) 25 _ (0, 0) _ rfl (blk_put BZ.out 0 _ rfl) Try.underlying25 rfl (by kernel_rfl)) rfl ⟨none, 0, 0, rfl, ⟨rfl, by decide, fun h => absurd h (by decide)⟩, Nat.le_refl _, BX.out.bl.setCell (show w.heap.size ≤ w.heap.size + 1 + 1 + 1 + 1 by omega) _⟩
      · rw [hK] at h HVk
        cases hX : B.valOk n (tV x)
        · rw [hX] at h HVx
          obtain ⟨rfl, rfl⟩ : l' = [] ∧ cc = 10 := by rcases h with h | h; exact h.2; simp at h
          clear hV hK hX h
          go_enter Try.func38, Try.ntmps38
          go_upto_region 1 with (fail)
          rw [← HW.out]
          go_wp2_with (first | (go_at_call 55; refine HH.out.mono ?_; rintro e w1 ⟨rfl, hB⟩; replace BX := Aside0.mk (BX.out.below hB); replace BZ := Aside0.mk (kbw BZ.out hB); clear p0 v0 v1 v2 k0 k1 k2 x0 x1 x2 zc zf; obtain ⟨p0, v0, v1, v2, k0, k1, k2, x0, x1, x2, -⟩ := BX.out; have zc := (kcl BZ.out 0).trans (show _ = some (.slice none 0 0) from rfl); have zf := kfz BZ.out 0; replace HC := Aside0.mk (Kd.C_below HC.out hB); clear hB) | (go_at_call 63; with_reducible refine (HVv.out _).mono ?_; rintro e w1v ⟨rfl, hB⟩; replace BX := Aside0.mk (BX.out.below hB); replace BZ := Aside0.mk (kbw BZ.out hB); clear p0 v0 v1 v2 k0 k1 k2 x0 x1 x2 zc zf; obtain ⟨p0, v0, v1, v2, k0, k1, k2, x0, x1, x2, -⟩ := BX.out; have zc := (kcl BZ.out 0).trans (show _ = some (.slice none 0 0) from rfl); have zf := kfz BZ.out 0; replace HC := Aside0.mk (Kd.C_below HC.out hB); clear hB) | (go_at_call 63; with_reducible refine (HVk.out _).mono ?_; rintro e w1k ⟨rfl, hB⟩; replace BX := Aside0.mk (BX.out.below hB); replace BZ := Aside0.mk (kbw BZ.out hB); clear p0 v0 v1 v2 k0 k1 k2 x0 x1 x2 zc zf; obtain ⟨p0, v0, v1, v2, k0, k1, k2, x0, x1, x2, -⟩ := BX.out; have zc := (kcl BZ.out 0).trans (show _ = some (.slice none 0 0) from rfl); have zf := kfz BZ.out 0; replace HC := Aside0.mk (Kd.C_below HC.out hB); clear hB) | (go_at_call 63; with_reducible refine (HVx.out _).mono ?_; rintro e w1x ⟨rfl, hB⟩; replace BX := Aside0.mk (BX.out.below hB); replace BZ := Aside0.mk (kbw BZ.out hB); clear p0 v0 v1 v2 k0 k1 k2 x0 x1 x2 zc zf; obtain ⟨p0, v0, v1, v2, k0, k1, k2, x0, x1, x2, -⟩ := BX.out; have zc := (kcl BZ.out 0).trans (show _ = some (.slice none 0 0) from rfl); have zf := kfz BZ.out 0; replace HC := Aside0.mk (Kd.C_below HC.out hB); clear hB))
          refine bodyPost_ret (B.res_ct rfl _ _ (w.heap.size + 1 + 1 + 1 + 1) 25 _ (0, 0) _ rfl (blk_put BZ.out 0 _ rfl) Try.underlying25 rfl (by kernel_rfl)) rfl ⟨none, 0, 0, rfl, ⟨rfl, by decide, fun h => absurd h (by decide)⟩, Nat.le_refl _, BX.out.bl.setCell (show w.heap.size ≤ w.heap.size + 1 + 1 + 1 + 1 by omega) _⟩
        · rw [hX] at h HVx
          have hput : Put l v k x l' cc := by rcases h with h | h; simp at h; exact h.2
          have hki : k.f0 = 2 → B.intB k.f1 = true ∧ k.f1.size ≤ 5 := fun h2 => ⟨val_int hK h2, hk5⟩
          have HSS := Aside0.mk (fun (g gb n1 c1 : Nat) (ok : Nat → Prop) (X : World) (hg : Rr X g (some ⟨gb, 0, none⟩) n1 c1) (hR : k46.R 46 X 0 ok (.slice (some ⟨gb, 0, none⟩) n1 c1) l) (hok : ∀ q, X.heap.size ≤ q → ok q) (hn1 : n1 ≤ 1000) => setIndexS_w g gb n1 c1 ok l l' v k x cc X hg hR hok hn1 hol hki hput)
          clear hV hK hX h hput hki
          go_enter Try.func38, Try.ntmps38
          go_upto_region 1 with (fail)
          rw [← HW.out]
          go_upto_region 4 with (first | (go_at_call 55; refine HH.out.mono ?_; rintro e w1 ⟨rfl, hB⟩; replace BX := Aside0.mk (BX.out.below hB); replace BZ := Aside0.mk (kbw BZ.out hB); clear p0 v0 v1 v2 k0 k1 k2 x0 x1 x2 zc zf; obtain ⟨p0, v0, v1, v2, k0, k1, k2, x0, x1, x2, -⟩ := BX.out; have zc := (kcl BZ.out 0).trans (show _ = some (.slice none 0 0) from rfl); have zf := kfz BZ.out 0; replace HC := Aside0.mk (Kd.C_below HC.out hB); clear hB) | (go_at_call 63; with_reducible refine (HVv.out _).mono ?_; rintro e w1v ⟨rfl, hB⟩; replace BX := Aside0.mk (BX.out.below hB); replace BZ := Aside0.mk (kbw BZ.out hB); clear p0 v0 v1 v2 k0 k1 k2 x0 x1 x2 zc zf; obtain ⟨p0, v0, v1, v2, k0, k1, k2, x0, x1, x2, -⟩ := BX.out; have zc := (kcl BZ.out 0).trans (show _ = some (.slice none 0 0) from rfl); have zf := kfz BZ.out 0; replace HC := Aside0.mk (Kd.C_below HC.out hB); clear hB) | (go_at_call 63; with_reducible refine (HVk.out _).mono ?_; rintro e w1k ⟨rfl, hB⟩; replace BX := Aside0.mk (BX.out.below hB); replace BZ := Aside0.mk (kbw BZ.out hB); clear p0 v0 v1 v2 k0 k1 k2 x0 x1 x2 zc zf; obtain ⟨p0, v0, v1, v2, k0, k1, k2, x0, x1, x2, -⟩ := BX.out; have zc := (kcl BZ.out 0).trans (show _ = some (.slice none 0 0) from rfl); have zf := kfz BZ.out 0; replace HC := Aside0.mk (Kd.C_below HC.out hB); clear hB) | (go_at_call 63; with_reducible refine (HVx.out _).mono ?_; rintro e w2 ⟨rfl, hB⟩; replace BX := Aside0.mk (BX.out.below hB); replace BZ := Aside0.mk (kbw BZ.out hB); clear p0 v0 v1 v2 k0 k1 k2 x0 x1 x2 zc zf; obtain ⟨p0, v0, v1, v2, k0, k1, k2, x0, x1, x2, -⟩ := BX.out; have zc := (kcl BZ.out 0).trans (show _ = some (.slice none 0 0) from rfl); have zf := kfz BZ.out 0; replace HC := Aside0.mk (Kd.C_below HC.out hB); clear hB) | (go_at_call 76; refine (HCL.out _ HC.out).mono ?_; rintro e w3 ⟨v3, rfl, hR3, hB⟩; obtain ⟨gb, c1, rfl, -, -, -⟩ := Kd.R_form hR3 (by have := HL.out; omega); obtain ⟨n1, hn1⟩ : ∃ n1, n1 = l.length := ⟨_, rfl⟩; rw [← hn1] at hR3 ⊢; have HRR := Aside0.mk hR3; have HL2 := Lib.hid (show w.heap.size + 1 + 1 + 1 + 1 < w2.heap.size from blk_lt BZ.out); have HN1 := Lib.hid hn1; clear hn1; replace BX := Aside0.mk (BX.out.below hB); replace BZ := Aside0.mk (kbw BZ.out hB); clear p0 v0 v1 v2 k0 k1 k2 x0 x1 x2 zc zf; obtain ⟨p0, v0, v1, v2, k0, k1, k2, x0, x1, x2, -⟩ := BX.out; have zc := (kcl BZ.out 0).trans (show _ = some (.slice none 0 0) from rfl); have zf := kfz BZ.out 0; replace HC := Aside0.mk (Kd.C_below HC.out hB); clear hB hR3))
          obtain ⟨W4, hW4⟩ : ∃ W4 : World, W4 = w3.alloc (.cells #[.slice (some ⟨gb, 0, none⟩) n1 c1, .slice none 0 0, .bool false, .int .i64 0, .int .i64 0] 85) := ⟨_, rfl⟩
          have hB : Below w3.heap.size w3 W4 := by rw [hW4]; exact bla (Below.refl _ _) _
          have hrr : Rr W4 w3.heap.size (some ⟨gb, 0, none⟩) n1 c1 := by rw [hW4]; exact blk_new _ _
          rw [← hW4]
          clear hW4
          replace BX := Aside0.mk (BX.out.below hB)
          replace BZ := Aside0.mk (kbw BZ.out hB)
          clear p0 v0 v1 v2 k0 k1 k2 x0 x1 x2 zc zf
          obtain ⟨p0, v0, v1, v2, k0, k1, k2, x0, x1, x2, -⟩ := BX.out
          have zc := (kcl BZ.out 0).trans (show _ = some (.slice none 0 0) from rfl)
          have zf := kfz BZ.out 0
          replace HC := Aside0.mk (Kd.C_below HC.out hB)
          have hR4 := Kd.R_below (Kd.R_lower (Kd.R_mono (ok' := fun q => w2.heap.size ≤ q) (Kd.R_bound HRR.out) (fun q hq => hq.2.1)) (Nat.zero_le _)) hB
          have hgbl := Kd.R_lt HRR.out gb rfl
          have h23 : w2.heap.size ≤ gb := Kd.R_base HRR.out gb rfl
          have h4s := hB.size
          clear hB
          obtain ⟨g, hg⟩ : ∃ g, g = w3.heap.size := ⟨_, rfl⟩
          rw [← hg] at hrr ⊢
          have hgne : g ≠ gb := by omega
          have HCALL := Aside0.mk (HSS.out g gb n1 c1 _ W4 hrr hR4 (fun q hq => by show w2.heap.size ≤ q; omega) (by have := HN1.out; have := HL.out; omega))
          have HRW := Aside0.mk hrr
          have HGS := Lib.hid (show g < W4.heap.size from blk_lt hrr)
          have HGB := Lib.hid h23
          have HGN := Lib.hid hgne
          clear hg hrr hR4 hgbl h23 h4s hgne
          go_upto_region 5 with (first | (go_at_call 77; refine HCALL.out.mono ?_; rintro e y ⟨rfl, hR5, hkp⟩; have HR5 := Aside0.mk hR5; have HKP := Aside0.mk hkp; have rr0 := (World.cell?_of_block (a := ⟨g, 0, none⟩) (hkp.block g HGS.out HGN.out)).trans ((kcl HRW.out 0).trans (show _ = some (Value.slice (some ⟨gb, 0, none⟩) n1 c1) from rfl)); have zb1 := (hkp.block (w.heap.size + 1 + 1 + 1 + 1) (blk_lt BZ.out) (fun hq => by have := HGB.out; have := HL2.out; omega)).trans BZ.out; have zc1 := (kcl zb1 0).trans (show _ = some (.slice none 0 0) from rfl); have zf1 := kfz zb1 0; clear hR5 hkp))
          clear p0 v0 v1 v2 k0 k1 k2 x0 x1 x2 zc zf
          go_wp2_with fail
          have o1 : (y.setCell ⟨w.heap.size + 1 + 1 + 1 + 1, 0, none⟩ (.slice (some ⟨gb, 0, none⟩) n1 c1)).heap[w.heap.size + 1 + 1 + 1 + 1]? = some (.cells #[.slice (some ⟨gb, 0, none⟩) n1 c1] 25 (0, 0)) := blk_put zb1 0 _ rfl
          have hRf := Kd.R_far HR5.out (p := ⟨w.heap.size + 1 + 1 + 1 + 1, 0, none⟩) (fun q hq => by have hq' : w2.heap.size ≤ q := hq; have := HL2.out; show q ≠ w.heap.size + 1 + 1 + 1 + 1; omega) (.slice (some ⟨gb, 0, none⟩) n1 c1)
          obtain ⟨e1, e2, e3⟩ := Kd.R_reads' hRf
          rw [← e1] at e3
          have hbl : Below w.heap.size w y := by
            have h1 := BX.out.bl.size
            exact BX.out.bl.trans (HKP.out.to h1 (fun q hq hq' => by have h2 : q = gb := hq'; have := HGB.out; have := HL2.out; omega))
          exact bodyPost_ret (B.res_ct rfl _ _ (w.heap.size + 1 + 1 + 1 + 1) 25 _ (0, 0) _ rfl o1 Try.underlying25 rfl (by kernel_rfl)) rfl ⟨_, n1, c1, rfl, e3, e2, hbl.setCell (show w.heap.size ≤ w.heap.size + 1 + 1 + 1 + 1 by omega) _⟩
end Go.Proofs.Ytgddblpgbkgpcaa.PR
namespace Go.Proofs.Ytgddblpgbkgpcaa.PR
set_option linter.unusedVariables false
set_option linter.unusedSimpArgs false
open Go.RowKit Go.Proofs.YtgddblpgbkgpcaaW.PrintWords Go.Proofs.YtgddblpgbkgpcaaW.PrintLast Go.Proofs.YtgddblpgbkgpcaaW.PrintMore
set_option linter.unusedVariables false
set_option linter.unusedSimpArgs false
structure De (W wi : World) (g b6 : Nat) (b : Int) (v : Value) (l : List S46) (x : S35) : Prop where
  rn : Rn W wi g b
  bl : Below W.heap.size W wi
  c6 : wi.heap[b6]? = some (.cells #[v] 25 (0, 0))
  c7 : wi.heap[b6 + 1]? = some (.cells #[.int .i64 x.f0, .string x.f1, .int .i64 x.f2] 35 (0, 0))
  gW : W.heap.size ≤ g
  gB : g < b6
  hl : k46.R 46 wi W.heap.size (fun k => k ≠ g ∧ k < b6) v l
theorem De.call {W wi w1 : World} {g b6 : Nat} {b b' : Int} {v : Value} {l : List S46} {x : S35} (h : De W wi g b6 b v l x) (hR : Rn W w1 g b') (hB : Below W.heap.size W w1) (hK : KeepBut wi w1 g none) : De W w1 g b6 b' v l x := by
  have h2 := h.gB
  exact ⟨hR, hB, hK.blk h.c6 (by omega) (by simp), hK.blk h.c7 (by omega) (by simp), h.gW, h2, Kd.R_keep h.hl hK (fun k hk => hk.1)⟩
theorem De.drew {W wi : World} {g b6 : Nat} {b : Int} {v : Value} {l : List S46} {x : S35} (h : De W wi g b6 b v l x) : De W wi.drew g b6 b v l x := h.call h.rn.drew (below_drew h.bl) (KeepBut.of_below (below_drew (Below.refl _ _)) g none)
theorem De.start {W w2 w3 : World} {g : Nat} {b b' : Int} {v : Value} {l : List S46} {x : S35} (hR0 : Rn W w2 g b) (hB0 : Below W.heap.size W w2) (hl : k46.R 46 w3 w2.heap.size (fun _ => True) v l) (hR : Rn W w3 g b') (hB : Below W.heap.size W w3) (hK : KeepBut w2 w3 g none) :
    De W ((w3.alloc (.cells #[v] 25)).alloc (.cells #[.int .i64 x.f0, .string x.f1, .int .i64 x.f2] 35)) g w3.heap.size b' v l x := by
  have hgl := hR0.lt
  have hs := hK.1
  have hs0 := hB0.size
  have e7 := blk_new (w3.alloc (.cells #[v] 25)) (.cells #[.int .i64 x.f0, .string x.f1, .int .i64 x.f2] 35)
  rw [World.size_alloc] at e7
  have hl2 : k46.R 46 w3 W.heap.size (fun k => k ≠ g ∧ k < w3.heap.size) v l := Kd.R_lower (Kd.R_mono (Kd.R_bound hl) (fun k hk => by have := hk.2.1; have := hk.2.2.1; refine ⟨?_, ?_⟩ <;> omega)) (by omega)
  exact ⟨(hR.alloc _).alloc _, bla (bla hB _) _, kla (blk_new _ _) _, e7, hR0.ge, by omega, Kd.R_alloc (Kd.R_alloc hl2 _) _⟩
theorem R_low {wi : World} {N : Nat} {ok : Nat → Prop} {v : Value} {l : List S46} (h : k46.R 46 wi N ok v l) {p : Addr} (hp : p.block < N) (u : Value) : k46.R 46 (wi.setCell p u) N (fun k => ok k ∧ N ≤ k) v l :=
  Kd.R_far (Kd.R_mono (Kd.R_bound h) (fun k hk => ⟨hk.1, hk.2.1⟩)) (fun k hk => by have := hk.2; omega) u
theorem R_low3 {wi : World} {N b : Nat} {ok : Nat → Prop} {v : Value} {l : List S46} (h : k46.R 46 wi N ok v l) (hp : b < N) (x y z : Value) : k46.R 46 (((wi.setCell ⟨b, 0, none⟩ x).setCell ⟨b, 1, none⟩ y).setCell ⟨b, 2, none⟩ z) N (fun _ => True) v l :=
  Kd.R_mono (R_low (R_low (R_low h hp x) hp y) hp z) (fun _ _ => trivial)
theorem far3 {wi : World} {a b : Nat} {o : Obj} (h : wi.heap[a]? = some o) (hn : a ≠ b) (x y z : Value) : (((wi.setCell ⟨b, 0, none⟩ x).setCell ⟨b, 1, none⟩ y).setCell ⟨b, 2, none⟩ z).heap[a]? = some o := B.blk_far (B.blk_far (B.blk_far h (p := ⟨b, 0, none⟩) hn x) (p := ⟨b, 1, none⟩) hn y) (p := ⟨b, 2, none⟩) hn z
theorem put35 {X : World} {b : Nat} {z0 z1 z2 : Value} (hz : X.heap[b]? = some (.cells #[z0, z1, z2] 35 (0, 0))) (x0 x1 x2 : Value) : (((X.setCell ⟨b, 0, none⟩ x0).setCell ⟨b, 1, none⟩ x1).setCell ⟨b, 2, none⟩ x2).heap[b]? = some (.cells #[x0, x1, x2] 35 (0, 0)) := by
  have q0 : (X.setCell ⟨b, 0, none⟩ x0).heap[b]? = some (.cells #[x0, z1, z2] 35 (0, 0)) := blk_put hz 0 _ rfl
  have q1 : ((X.setCell ⟨b, 0, none⟩ x0).setCell ⟨b, 1, none⟩ x1).heap[b]? = some (.cells #[x0, x1, z2] 35 (0, 0)) := blk_put q0 1 _ rfl
  exact blk_put q1 2 _ rfl
theorem set35b {w X : World} {b : Nat} (h : Below w.heap.size w X) (hb : w.heap.size ≤ b) (x y z : Value) : Below w.heap.size w (((X.setCell ⟨b, 0, none⟩ x).setCell ⟨b, 1, none⟩ y).setCell ⟨b, 2, none⟩ z) := ((h.setCell hb _).setCell hb _).setCell hb _
end Go.Proofs.Ytgddblpgbkgpcaa.PR
namespace Go.Proofs.Ytgddblpgbkgpcaa.PR
set_option linter.unusedVariables false
set_option linter.unusedSimpArgs false
open Go.RowKit Go.Proofs.YtgddblpgbkgpcaaW.PrintWords Go.Proofs.YtgddblpgbkgpcaaW.PrintLast Go.Proofs.YtgddblpgbkgpcaaW.PrintMore
set_option linter.unusedVariables false
set_option linter.unusedSimpArgs false
theorem res_c4 {P : Program} {fn : Func} {p0 p1 p2 p3 : Tmp} {ty0 ty1 ty2 ty3 : TypeId} (h : fn.results = #[.cell p0 ty0, .cell p1 ty1, .cell p2 ty2, .cell p3 ty3]) (tmps : Array Value) (w : World)
    {g0 : Nat} {t0 : TypeId} {cs0 : Array Value} {fr0 : Nat × Nat} {d0 : TypeDesc} (hp0 : tmps.getD p0 undef = .pointer (some ⟨g0, 0, none⟩)) (hg0 : w.heap[g0]? = some (.cells cs0 t0 fr0)) (hu0 : P.underlying ty0 = some d0) (hd0 : (match d0 with | .struct _ | .array _ _ => true | _ => false) = true) (hi0 : (P.info? ty0).map (·.size) = some cs0.size)
    {g1 : Nat} {t1 : TypeId} {cs1 : Array Value} {fr1 : Nat × Nat} {d1 : TypeDesc} (hp1 : tmps.getD p1 undef = .pointer (some ⟨g1, 0, none⟩)) (hg1 : w.heap[g1]? = some (.cells cs1 t1 fr1)) (hu1 : P.underlying ty1 = some d1) (hd1 : (match d1 with | .struct _ | .array _ _ => true | _ => false) = true) (hi1 : (P.info? ty1).map (·.size) = some cs1.size)
    {g2 : Nat} {t2 : TypeId} {cs2 : Array Value} {fr2 : Nat × Nat} {d2 : TypeDesc} (hp2 : tmps.getD p2 undef = .pointer (some ⟨g2, 0, none⟩)) (hg2 : w.heap[g2]? = some (.cells cs2 t2 fr2)) (hu2 : P.underlying ty2 = some d2) (hd2 : (match d2 with | .struct _ | .array _ _ => true | _ => false) = true) (hi2 : (P.info? ty2).map (·.size) = some cs2.size)
    {g3 : Nat} {t3 : TypeId} {cs3 : Array Value} {fr3 : Nat × Nat} {d3 : TypeDesc} (hp3 : tmps.getD p3 undef = .pointer (some ⟨g3, 0, none⟩)) (hg3 : w.heap[g3]? = some (.cells cs3 t3 fr3)) (hu3 : P.underlying ty3 = some d3) (hd3 : (match d3 with | .struct _ | .array _ _ => true | _ => false) = true) (hi3 : (P.info? ty3).map (·.size) = some cs3.size) :
    (results fn tmps).run P w = .ok (.tuple #[.agg cs0, .agg cs1, .agg cs2, .agg cs3]) w := by
  have h0 : tmps[p0]?.getD undef = .pointer (some ⟨g0, 0, none⟩) := by simpa using hp0
  have h1 : tmps[p1]?.getD undef = .pointer (some ⟨g1, 0, none⟩) := by simpa using hp1
  have h2 : tmps[p2]?.getD undef = .pointer (some ⟨g2, 0, none⟩) := by simpa using hp2
  have h3 : tmps[p3]?.getD undef = .pointer (some ⟨g3, 0, none⟩) := by simpa using hp3
  simp [results, h, h0, h1, h2, h3, asAddr, run_loadVar_row w g0 t0 ty0 cs0 fr0 d0 hg0 hu0 hd0 hi0, run_loadVar_row w g1 t1 ty1 cs1 fr1 d1 hg1 hu1 hd1 hi1, run_loadVar_row w g2 t2 ty2 cs2 fr2 d2 hg2 hu2 hd2 hi2, run_loadVar_row w g3 t3 ty3 cs3 fr3 d3 hg3 hu3 hd3 hi3]
def DPi37 (w : World) (e : Ending) (w' : World) : Prop :=
  ∃ (A : Option Addr) (n c : Nat) (l : List S46) (x y z : S35), e = .returned (.tuple #[.agg #[.slice A n c], .agg #[.int .i64 x.f0, .string x.f1, .int .i64 x.f2], .agg #[.int .i64 y.f0, .string y.f1, .int .i64 y.f2], .agg #[.int .i64 z.f0, .string z.f1, .int .i64 z.f2]]) ∧ Kd.C k46 w' A n l ∧ n ≤ c ∧ n ≤ 24 ∧ 0 < n ∧ (∀ o ∈ l, oB o = true) ∧ VOk x ∧ VOk y ∧ VOk z ∧ Below w.heap.size w w'
set_option maxRecDepth 100000 in
set_option maxHeartbeats 4000000 in
theorem draw37_w (a : Option Addr) (c0 : Nat) (l0 : List Int) (w : World) (hr0 : Kd.C (Kd.int .u8) w a l0.length l0) (hc0 : l0.length ≤ c0) (hw0 : ∀ x ∈ l0, 0 ≤ x ∧ x ≤ 255) :
    Calls Try.prog 37 #[.slice a l0.length c0] w (DPi37 w) := by
  obtain ⟨W, hW⟩ : ∃ W : World, W = (((w.alloc (.cells #[.slice none 0 0] 25)).alloc (.cells #[.int .i64 0, .string ⟨#[]⟩, .int .i64 0] 35)).alloc (.cells #[.int .i64 0, .string ⟨#[]⟩, .int .i64 0] 35)).alloc (.cells #[.int .i64 0, .string ⟨#[]⟩, .int .i64 0] 35) := ⟨_, rfl⟩
  have hwb : Below w.heap.size w W := by rw [hW]; exact bla (bla (bla (bla (Below.refl _ _) _) _) _) _
  have z0 : W.heap[w.heap.size]? = some (.cells #[.slice none 0 0] 25 (0, 0)) := by rw [hW]; exact kla (kla (kla ((blk_new _ _)) _) _) _
  have e1 := blk_new (w.alloc (.cells #[.slice none 0 0] 25)) (.cells #[.int .i64 0, .string ⟨#[]⟩, .int .i64 0] 35)
  rw [World.size_alloc] at e1
  have z1 : W.heap[w.heap.size + 1]? = some (.cells #[.int .i64 0, .string ⟨#[]⟩, .int .i64 0] 35 (0, 0)) := by rw [hW]; exact kla (kla (e1) _) _
  have e2 := blk_new ((w.alloc (.cells #[.slice none 0 0] 25)).alloc (.cells #[.int .i64 0, .string ⟨#[]⟩, .int .i64 0] 35)) (.cells #[.int .i64 0, .string ⟨#[]⟩, .int .i64 0] 35)
  rw [World.size_alloc, World.size_alloc] at e2
  have z2 : W.heap[w.heap.size + 1 + 1]? = some (.cells #[.int .i64 0, .string ⟨#[]⟩, .int .i64 0] 35 (0, 0)) := by rw [hW]; exact kla (e2) _
  have e3 := blk_new (((w.alloc (.cells #[.slice none 0 0] 25)).alloc (.cells #[.int .i64 0, .string ⟨#[]⟩, .int .i64 0] 35)).alloc (.cells #[.int .i64 0, .string ⟨#[]⟩, .int .i64 0] 35)) (.cells #[.int .i64 0, .string ⟨#[]⟩, .int .i64 0] 35)
  rw [World.size_alloc, World.size_alloc, World.size_alloc] at e3
  have z3 : W.heap[w.heap.size + 1 + 1 + 1]? = some (.cells #[.int .i64 0, .string ⟨#[]⟩, .int .i64 0] 35 (0, 0)) := by rw [hW]; exact e3
  have hsz : w.heap.size + 1 + 1 + 1 < W.heap.size := blk_lt z3
  have HZ0 := Aside0.mk z0
  have HZ1 := Aside0.mk z1
  have HZ2 := Aside0.mk z2
  have HZ3 := Aside0.mk z3
  have HSZ := Lib.hid hsz
  have HWB := Aside0.mk hwb
  have HR0 := Aside0.mk (Kd.C_below hr0 hwb)
  have HC0 := Aside0.mk hc0
  have hcs : CsOk (l0.take ((mn (l0.length : Int) 4000) : Int).toNat) := ⟨by rw [List.length_take]; unfold mn; split <;> omega, fun x hx => hw0 x (List.mem_of_mem_take hx)⟩
  have HF := Lib.hid (show spec_newRnd.f l0 = some (l0.take ((mn (l0.length : Int) 4000) : Int).toNat, 0) by unfold spec_newRnd.f; rw [if_pos (by unfold mn; split <;> omega), if_pos (by unfold mn; split <;> omega)])
  have HCS := Aside0.mk hcs
  have HW := Lib.hid hW
  clear hr0 hc0 hcs hw0 hW hwb hsz z0 z1 z2 z3 e1 e2 e3
  go_enter Try.func37, Try.ntmps37
  go_upto_region 1 with (fail)
  rw [← HW.out]
  go_upto_region 3 with (first
    | (go_at_call 49; refine (spec_newRnd.calls a c0 l0 _ _ W _ (Below.refl _ _) HR0.out HC0.out HF.out).mono ?_; rintro e w2 ⟨g, rfl, hI, hB, -⟩; have HX := Aside0.mk (show Rn W w2 g 0 ∧ Below W.heap.size W w2 from ⟨⟨_, 0, hI, HCS.out, Int.le_refl _, Int.le_refl _⟩, hB⟩); clear hI hB)
    | (go_at_call 50; refine (heap_w g 0 W _ HX.out.1 HX.out.2 (by omega)).mono ?_; rintro e w3 ⟨v, l, x, rfl, hx, lo, hi, hall, hl, hR, hB, hK⟩; obtain ⟨A, n, c, rfl, hn⟩ : ∃ A n c, v = .slice A n c ∧ n = l.length := slice_form hl; have hn24 : n ≤ 24 := hn ▸ hi; have hn0 : 0 < n := (by omega); have HN := Lib.hid hn; have HVX := Aside0.mk hx; have HALL := Aside0.mk hall; have HD := Aside0.mk (De.start (x := x) HX.out.1 HX.out.2 hl hR hB hK); clear hx lo hi hall hl hR hB hK hn))
  obtain ⟨W3, hW3⟩ : ∃ W3 : World, W3 = (w3.alloc (.cells #[.slice A n c] 25)).alloc (.cells #[.int .i64 x.f0, .string x.f1, .int .i64 x.f2] 35) := ⟨_, rfl⟩
  rw [← hW3] at HD ⊢
  obtain ⟨b6, hb6⟩ : ∃ b6, b6 = w3.heap.size := ⟨_, rfl⟩
  rw [← hb6] at HD ⊢
  clear hW3 hb6 HX
  go_wp2_with fail
  have hpd := HD.out.drew
  refine start_ (n := 16) (S := fun w' => w'.cell? ⟨b6, 0, none⟩ = some (.slice A n c) ∧ w'.cell? ⟨b6 + 1, 0, none⟩ = some (.int .i64 x.f0) ∧ w'.cell? ⟨b6 + 1, 1, none⟩ = some (.string x.f1) ∧ w'.cell? ⟨b6 + 1, 2, none⟩ = some (.int .i64 x.f2)) (ds := [13, 14, 15]) #[false, false, false, false, false, false, false, false, false, false, false, false, false, false, false, false] (by kernel_rfl) rfl rfl ⟨kcl hpd.c6 0, kcl hpd.c7 0, kcl hpd.c7 1, kcl hpd.c7 2⟩ (fun hHeld => ?_)
  generalize W3.drew = w10 at hpd hHeld ⊢
  refine pure_ (i := 2) (N := some 18) (v := ?_) (a' := ?_) #[false, false, true, false, false, false, false, false, false, false, false, false, false, false, false, false] rfl rfl (by kernel_rfl) (fun _ _ _ h => h) (Or.inl ⟨by rfl, ?_⟩) ?_ ?_
  rotate_left
  · intro w'
    go_simp
    with_reducible rfl
  rotate_left
  · simp only [Act.put, List.setIfInBounds_toArray, List.set_cons_zero, List.set_cons_succ, i64_w, i32_w]
    rfl
  refine pure_ (i := 3) (N := some 19) (v := ?_) (a' := ?_) #[false, false, true, true, false, false, false, false, false, false, false, false, false, false, false, false] rfl rfl (by kernel_rfl) (fun _ _ _ h => h) (Or.inl ⟨by rfl, ?_⟩) ?_ ?_
  rotate_left
  · intro w'
    go_simp
    with_reducible rfl
  rotate_left
  · simp only [Act.put, List.setIfInBounds_toArray, List.set_cons_zero, List.set_cons_succ, i64_w, i32_w]
    rfl
  refine pure_ (i := 7) (N := some 23) (v := ?_) (a' := ?_) #[false, false, true, true, false, false, false, true, false, false, false, false, false, false, false, false] rfl rfl (by kernel_rfl) (fun _ _ _ h => h) (Or.inl ⟨by rfl, ?_⟩) ?_ ?_
  rotate_left
  · intro w'
    go_simp
    with_reducible rfl
  rotate_left
  · simp only [Act.put, List.setIfInBounds_toArray, List.set_cons_zero, List.set_cons_succ, i64_w, i32_w]
    rfl
  refine pure_ (i := 8) (N := some 24) (v := ?_) (a' := ?_) #[false, false, true, true, false, false, false, true, true, false, false, false, false, false, false, false] rfl rfl (by kernel_rfl) (fun _ _ _ h => h) (Or.inl ⟨by rfl, ?_⟩) ?_ ?_
  rotate_left
  · intro w'
    go_simp
    with_reducible rfl
  rotate_left
  · simp only [Act.put, List.setIfInBounds_toArray, List.set_cons_zero, List.set_cons_succ, i64_w, i32_w]
    rfl
  refine take_ (i := 0) (N := some 16) (v := ?_) (a' := ?_) #[true, false, true, true, false, false, false, true, true, false, false, false, false, false, false, false] rfl rfl (by kernel_rfl) (fun _ _ _ h => h) (Or.inl ⟨by rfl, ?_⟩) hHeld ?_ ?_
  rotate_left
  · rintro w' ⟨s0, s1, s2, s3⟩
    go_simp
    with_reducible rfl
  rotate_left
  · simp only [Act.put, List.setIfInBounds_toArray, List.set_cons_zero, List.set_cons_succ, i64_w, i32_w]
    rfl
  refine take_ (i := 1) (N := some 17) (v := ?_) (a' := ?_) #[true, true, true, true, false, false, false, true, true, false, false, false, false, false, false, false] rfl rfl (by kernel_rfl) (fun _ _ _ h => h) (Or.inl ⟨by rfl, ?_⟩) hHeld ?_ ?_
  rotate_left
  · rintro w' ⟨s0, s1, s2, s3⟩
    go_simp
    with_reducible rfl
  rotate_left
  · simp only [Act.put, List.setIfInBounds_toArray, List.set_cons_zero, List.set_cons_succ, i64_w, i32_w]
    rfl
  refine take_ (i := 4) (N := some 20) (v := ?_) (a' := ?_) #[true, true, true, true, true, false, false, true, true, false, false, false, false, false, false, false] rfl rfl (by kernel_rfl) (fun _ _ _ h => h) (Or.inl ⟨by rfl, ?_⟩) hHeld ?_ ?_
  rotate_left
  · rintro w' ⟨s0, s1, s2, s3⟩
    go_simp
    with_reducible rfl
  rotate_left
  · simp only [Act.put, List.setIfInBounds_toArray, List.set_cons_zero, List.set_cons_succ, i64_w, i32_w]
    rfl
  refine pure_ (i := 5) (N := some 21) (v := ?_) (a' := ?_) #[true, true, true, true, true, true, false, true, true, false, false, false, false, false, false, false] rfl rfl (by kernel_rfl) (fun _ _ _ h => h) (Or.inl ⟨by rfl, ?_⟩) ?_ ?_
  rotate_left
  · intro w'
    go_simp
    with_reducible rfl
  rotate_left
  · simp only [Act.put, List.setIfInBounds_toArray, List.set_cons_zero, List.set_cons_succ, i64_w, i32_w]
    rfl
  refine take_ (i := 9) (N := some 25) (v := ?_) (a' := ?_) #[true, true, true, true, true, true, false, true, true, true, false, false, false, false, false, false] rfl rfl (by kernel_rfl) (fun _ _ _ h => h) (Or.inl ⟨by rfl, ?_⟩) hHeld ?_ ?_
  rotate_left
  · rintro w' ⟨s0, s1, s2, s3⟩
    go_simp
    with_reducible rfl
  rotate_left
  · simp only [Act.put, List.setIfInBounds_toArray, List.set_cons_zero, List.set_cons_succ, i64_w, i32_w]
    rfl
  refine pure_ (i := 10) (N := some 26) (v := ?_) (a' := ?_) #[true, true, true, true, true, true, false, true, true, true, true, false, false, false, false, false] rfl rfl (by kernel_rfl) (fun _ _ _ h => h) (Or.inl ⟨by rfl, ?_⟩) ?_ ?_
  rotate_left
  · intro w'
    go_simp
    with_reducible rfl
  rotate_left
  · simp only [Act.put, List.setIfInBounds_toArray, List.set_cons_zero, List.set_cons_succ, i64_w, i32_w]
    rfl
  refine one_ (i := 6) (N := some 22) #[true, true, true, true, true, true, true, true, true, true, true, false, false, false, false, false] rfl rfl (by kernel_rfl) (by decide) (fun K hK => ?_)
  refine goes_ Try.func52 (by kernel_rfl) rfl #[.pointer (some ⟨g, 0, none⟩), .int .i64 (n : Int)] (by rfl) rfl rfl (by simp only [List.map_toArray, List.map_cons, List.map_nil]; rfl) ?_
  with_reducible refine (value_w g n 10000 W _ hpd.rn hpd.bl (by omega) (by omega) (by omega)).mono ?_
  rintro e w11 ⟨y, rfl, hy, hR, hB, hK⟩
  refine ⟨_, rfl, ?_⟩
  have hp1 := hpd.call hR hB hK
  clear hR hB hK
  refine hK.out _ _ ⟨kcl hp1.c6 0, kcl hp1.c7 0, kcl hp1.c7 1, kcl hp1.c7 2⟩ (fun hHeld => ?_)
  clear hK K
  refine norm_ (a' := ?_) ?_ ?_
  rotate_left
  · show Act.put _ (some 22) _ = _
    simp only [Act.put, List.setIfInBounds_toArray, List.set_cons_zero, List.set_cons_succ, i64_w, i32_w]
    rfl
  refine one_ (i := 11) (N := some 27) #[true, true, true, true, true, true, true, true, true, true, true, true, false, false, false, false] rfl rfl (by kernel_rfl) (by decide) (fun K hK => ?_)
  refine goes_ Try.func52 (by kernel_rfl) rfl #[.pointer (some ⟨g, 0, none⟩), .int .i64 (n : Int)] (by rfl) rfl rfl (by simp only [List.map_toArray, List.map_cons, List.map_nil]; rfl) ?_
  with_reducible refine (value_w g n 10010 W _ hp1.rn hp1.bl (by omega) (by omega) (by omega)).mono ?_
  rintro e w12 ⟨z, rfl, hz, hR, hB, hK⟩
  refine ⟨_, rfl, ?_⟩
  have hp2 := hp1.call hR hB hK
  clear hR hB hK
  have zz0 := kbw HZ0.out hp2.bl
  have zc00 := (kcl zz0 0).trans (show _ = some (.slice none 0 0) from rfl)
  have zf00 := kfz zz0 0
  have zz1 := kbw HZ1.out hp2.bl
  have zc10 := (kcl zz1 0).trans (show _ = some (.int .i64 0) from rfl)
  have zf10 := kfz zz1 0
  have zc11 := (kcl zz1 1).trans (show _ = some (.string ⟨#[]⟩) from rfl)
  have zf11 := kfz zz1 1
  have zc12 := (kcl zz1 2).trans (show _ = some (.int .i64 0) from rfl)
  have zf12 := kfz zz1 2
  have zz2 := kbw HZ2.out hp2.bl
  have zc20 := (kcl zz2 0).trans (show _ = some (.int .i64 0) from rfl)
  have zf20 := kfz zz2 0
  have zc21 := (kcl zz2 1).trans (show _ = some (.string ⟨#[]⟩) from rfl)
  have zf21 := kfz zz2 1
  have zc22 := (kcl zz2 2).trans (show _ = some (.int .i64 0) from rfl)
  have zf22 := kfz zz2 2
  have zz3 := kbw HZ3.out hp2.bl
  have zc30 := (kcl zz3 0).trans (show _ = some (.int .i64 0) from rfl)
  have zf30 := kfz zz3 0
  have zc31 := (kcl zz3 1).trans (show _ = some (.string ⟨#[]⟩) from rfl)
  have zf31 := kfz zz3 1
  have zc32 := (kcl zz3 2).trans (show _ = some (.int .i64 0) from rfl)
  have zf32 := kfz zz3 2
  refine hK.out _ _ ⟨kcl hp2.c6 0, kcl hp2.c7 0, kcl hp2.c7 1, kcl hp2.c7 2⟩ (fun hHeld => ?_)
  clear hK K
  refine norm_ (a' := ?_) ?_ ?_
  rotate_left
  · show Act.put _ (some 27) _ = _
    simp only [Act.put, List.setIfInBounds_toArray, List.set_cons_zero, List.set_cons_succ, i64_w, i32_w]
    rfl
  refine one_ (i := 12) (N := none) #[true, true, true, true, true, true, true, true, true, true, true, true, true, false, false, false] rfl rfl (by kernel_rfl) (by decide) (fun K hK => ?_)
  refine skip_ (w1 := ?_) (by rfl) rfl ?_ ?_
  rotate_left
  · go_simp
    rfl
  refine hK.out _ _ ⟨kcl (blk_far hp2.c6 (p := ⟨w.heap.size, 0, none⟩) (by have := hp2.gB; have := hp2.gW; have := HSZ.out; show _ ≠ w.heap.size; omega) _) 0, kcl (blk_far hp2.c7 (p := ⟨w.heap.size, 0, none⟩) (by have := hp2.gB; have := hp2.gW; have := HSZ.out; show _ ≠ w.heap.size; omega) _) 0, kcl (blk_far hp2.c7 (p := ⟨w.heap.size, 0, none⟩) (by have := hp2.gB; have := hp2.gW; have := HSZ.out; show _ ≠ w.heap.size; omega) _) 1, kcl (blk_far hp2.c7 (p := ⟨w.heap.size, 0, none⟩) (by have := hp2.gB; have := hp2.gW; have := HSZ.out; show _ ≠ w.heap.size; omega) _) 2⟩ (fun hHeld => ?_)
  clear hK K
  refine last_ (i := 13) (N := none) #[true, true, true, true, true, true, true, true, true, true, true, true, true, true, false, false] rfl rfl (by kernel_rfl) (by decide) (fun K hK => ?_)
  have q0 : (w12.setCell ⟨w.heap.size, 0, none⟩ (.slice A n c)).heap[w.heap.size]? = some (.cells #[.slice A n c] 25 (0, 0)) := blk_put zz0 0 _ rfl
  have y1 : (w12.setCell ⟨w.heap.size, 0, none⟩ (.slice A n c)).heap[w.heap.size + 1]? = some (.cells #[.int .i64 0, .string ⟨#[]⟩, .int .i64 0] 35 (0, 0)) := blk_far zz1 (p := ⟨w.heap.size, 0, none⟩) (by show _ ≠ w.heap.size; omega) _
  have y2 : (w12.setCell ⟨w.heap.size, 0, none⟩ (.slice A n c)).heap[w.heap.size + 1 + 1]? = some (.cells #[.int .i64 0, .string ⟨#[]⟩, .int .i64 0] 35 (0, 0)) := blk_far zz2 (p := ⟨w.heap.size, 0, none⟩) (by show _ ≠ w.heap.size; omega) _
  have y3 : (w12.setCell ⟨w.heap.size, 0, none⟩ (.slice A n c)).heap[w.heap.size + 1 + 1 + 1]? = some (.cells #[.int .i64 0, .string ⟨#[]⟩, .int .i64 0] 35 (0, 0)) := blk_far zz3 (p := ⟨w.heap.size, 0, none⟩) (by show _ ≠ w.heap.size; omega) _
  have r0 := R_low hp2.hl (p := ⟨w.heap.size, 0, none⟩) (by have := HSZ.out; show w.heap.size < _; omega) (.slice A n c)
  have b0 : Below w.heap.size w (w12.setCell ⟨w.heap.size, 0, none⟩ (.slice A n c)) := (bst HWB.out hp2.bl).setCell (Nat.le_refl _) _
  clear zc10 zf10 zc11 zf11 zc12 zf12 zc20 zf20 zc21 zf21 zc22 zf22 zc30 zf30 zc31 zf31 zc32 zf32 zc00 zf00
  clear hHeld
  generalize w12.setCell ⟨w.heap.size, 0, none⟩ (.slice A n c) = X0 at q0 y1 y2 y3 r0 b0 ⊢
  have zd10 := (kcl y1 0).trans (show _ = some (.int .i64 0) from rfl)
  have ze10 := kfz y1 0
  have zd11 := (kcl y1 1).trans (show _ = some (.string ⟨#[]⟩) from rfl)
  have ze11 := kfz y1 1
  have zd12 := (kcl y1 2).trans (show _ = some (.int .i64 0) from rfl)
  have ze12 := kfz y1 2
  refine skip_ (w1 := ?_) (by rfl) rfl ?_ ?_
  rotate_left
  · go_simp
    rfl
  refine hK.out _ _ ?_
  clear hK K
  refine last_ (i := 14) (N := none) #[true, true, true, true, true, true, true, true, true, true, true, true, true, true, true, false] rfl rfl (by kernel_rfl) (by decide) (fun K hK => ?_)
  have q0a : ((((X0).setCell ⟨w.heap.size + 1, 0, none⟩ (.int .i64 x.f0)).setCell ⟨w.heap.size + 1, 1, none⟩ (.string x.f1)).setCell ⟨w.heap.size + 1, 2, none⟩ (.int .i64 x.f2)).heap[w.heap.size]? = some (.cells #[.slice A n c] 25 (0, 0)) := far3 q0 (b := w.heap.size + 1) (by omega) (.int .i64 x.f0) (.string x.f1) (.int .i64 x.f2)
  have p1 : ((((X0).setCell ⟨w.heap.size + 1, 0, none⟩ (.int .i64 x.f0)).setCell ⟨w.heap.size + 1, 1, none⟩ (.string x.f1)).setCell ⟨w.heap.size + 1, 2, none⟩ (.int .i64 x.f2)).heap[w.heap.size + 1]? = some (.cells #[.int .i64 x.f0, .string x.f1, .int .i64 x.f2] 35 (0, 0)) := put35 y1 (.int .i64 x.f0) (.string x.f1) (.int .i64 x.f2)
  have y2a : ((((X0).setCell ⟨w.heap.size + 1, 0, none⟩ (.int .i64 x.f0)).setCell ⟨w.heap.size + 1, 1, none⟩ (.string x.f1)).setCell ⟨w.heap.size + 1, 2, none⟩ (.int .i64 x.f2)).heap[w.heap.size + 1 + 1]? = some (.cells #[.int .i64 0, .string ⟨#[]⟩, .int .i64 0] 35 (0, 0)) := far3 y2 (b := w.heap.size + 1) (by omega) (.int .i64 x.f0) (.string x.f1) (.int .i64 x.f2)
  have y3a : ((((X0).setCell ⟨w.heap.size + 1, 0, none⟩ (.int .i64 x.f0)).setCell ⟨w.heap.size + 1, 1, none⟩ (.string x.f1)).setCell ⟨w.heap.size + 1, 2, none⟩ (.int .i64 x.f2)).heap[w.heap.size + 1 + 1 + 1]? = some (.cells #[.int .i64 0, .string ⟨#[]⟩, .int .i64 0] 35 (0, 0)) := far3 y3 (b := w.heap.size + 1) (by omega) (.int .i64 x.f0) (.string x.f1) (.int .i64 x.f2)
  have r1 := R_low3 r0 (b := w.heap.size + 1) (by have := HSZ.out; omega) (.int .i64 x.f0) (.string x.f1) (.int .i64 x.f2)
  have b1 : Below w.heap.size w ((((X0).setCell ⟨w.heap.size + 1, 0, none⟩ (.int .i64 x.f0)).setCell ⟨w.heap.size + 1, 1, none⟩ (.string x.f1)).setCell ⟨w.heap.size + 1, 2, none⟩ (.int .i64 x.f2)) := set35b b0 (by omega) _ _ _
  clear zd10 ze10 zd11 ze11 zd12 ze12
  generalize (((X0).setCell ⟨w.heap.size + 1, 0, none⟩ (.int .i64 x.f0)).setCell ⟨w.heap.size + 1, 1, none⟩ (.string x.f1)).setCell ⟨w.heap.size + 1, 2, none⟩ (.int .i64 x.f2) = X1 at q0a p1 y2a y3a r1 b1 ⊢
  have zd20 := (kcl y2a 0).trans (show _ = some (.int .i64 0) from rfl)
  have ze20 := kfz y2a 0
  have zd21 := (kcl y2a 1).trans (show _ = some (.string ⟨#[]⟩) from rfl)
  have ze21 := kfz y2a 1
  have zd22 := (kcl y2a 2).trans (show _ = some (.int .i64 0) from rfl)
  have ze22 := kfz y2a 2
  refine skip_ (w1 := ?_) (by rfl) rfl ?_ ?_
  rotate_left
  · go_simp
    rfl
  refine hK.out _ _ ?_
  clear hK K
  refine last_ (i := 15) (N := none) #[true, true, true, true, true, true, true, true, true, true, true, true, true, true, true, true] rfl rfl (by kernel_rfl) (by decide) (fun K hK => ?_)
  have q0aa : ((((X1).setCell ⟨w.heap.size + 1 + 1, 0, none⟩ (.int .i64 y.f0)).setCell ⟨w.heap.size + 1 + 1, 1, none⟩ (.string y.f1)).setCell ⟨w.heap.size + 1 + 1, 2, none⟩ (.int .i64 y.f2)).heap[w.heap.size]? = some (.cells #[.slice A n c] 25 (0, 0)) := far3 q0a (b := w.heap.size + 1 + 1) (by omega) (.int .i64 y.f0) (.string y.f1) (.int .i64 y.f2)
  have p1a : ((((X1).setCell ⟨w.heap.size + 1 + 1, 0, none⟩ (.int .i64 y.f0)).setCell ⟨w.heap.size + 1 + 1, 1, none⟩ (.string y.f1)).setCell ⟨w.heap.size + 1 + 1, 2, none⟩ (.int .i64 y.f2)).heap[w.heap.size + 1]? = some (.cells #[.int .i64 x.f0, .string x.f1, .int .i64 x.f2] 35 (0, 0)) := far3 p1 (b := w.heap.size + 1 + 1) (by omega) (.int .i64 y.f0) (.string y.f1) (.int .i64 y.f2)
  have p2 : ((((X1).setCell ⟨w.heap.size + 1 + 1, 0, none⟩ (.int .i64 y.f0)).setCell ⟨w.heap.size + 1 + 1, 1, none⟩ (.string y.f1)).setCell ⟨w.heap.size + 1 + 1, 2, none⟩ (.int .i64 y.f2)).heap[w.heap.size + 1 + 1]? = some (.cells #[.int .i64 y.f0, .string y.f1, .int .i64 y.f2] 35 (0, 0)) := put35 y2a (.int .i64 y.f0) (.string y.f1) (.int .i64 y.f2)
  have y3aa : ((((X1).setCell ⟨w.heap.size + 1 + 1, 0, none⟩ (.int .i64 y.f0)).setCell ⟨w.heap.size + 1 + 1, 1, none⟩ (.string y.f1)).setCell ⟨w.heap.size + 1 + 1, 2, none⟩ (.int .i64 y.f2)).heap[w.heap.size + 1 + 1 + 1]? = some (.cells #[.int .i64 0, .string ⟨#[]⟩, .int .i64 0] 35 (0, 0)) := far3 y3a (b := w.heap.size + 1 + 1) (by omega) (.int .i64 y.f0) (.string y.f1) (.int .i64 y.f2)
  have r2 := R_low3 r1 (b := w.heap.size + 1 + 1) (by have := HSZ.out; omega) (.int .i64 y.f0) (.string y.f1) (.int .i64 y.f2)
  have b2 : Below w.heap.size w ((((X1).setCell ⟨w.heap.size + 1 + 1, 0, none⟩ (.int .i64 y.f0)).setCell ⟨w.heap.size + 1 + 1, 1, none⟩ (.string y.f1)).setCell ⟨w.heap.size + 1 + 1, 2, none⟩ (.int .i64 y.f2)) := set35b b1 (by omega) _ _ _
  clear zd20 ze20 zd21 ze21 zd22 ze22
  generalize (((X1).setCell ⟨w.heap.size + 1 + 1, 0, none⟩ (.int .i64 y.f0)).setCell ⟨w.heap.size + 1 + 1, 1, none⟩ (.string y.f1)).setCell ⟨w.heap.size + 1 + 1, 2, none⟩ (.int .i64 y.f2) = X2 at q0aa p1a p2 y3aa r2 b2 ⊢
  have zd30 := (kcl y3aa 0).trans (show _ = some (.int .i64 0) from rfl)
  have ze30 := kfz y3aa 0
  have zd31 := (kcl y3aa 1).trans (show _ = some (.string ⟨#[]⟩) from rfl)
  have ze31 := kfz y3aa 1
  have zd32 := (kcl y3aa 2).trans (show _ = some (.int .i64 0) from rfl)
  have ze32 := kfz y3aa 2
  refine skip_ (w1 := ?_) (by rfl) rfl ?_ ?_
  rotate_left
  · go_simp
    rfl
  refine hK.out _ _ ?_
  clear hK K
  refine done_ (by kernel_rfl) ?_
  go_wp2_with fail
  have q0aaa : ((((X2).setCell ⟨w.heap.size + 1 + 1 + 1, 0, none⟩ (.int .i64 z.f0)).setCell ⟨w.heap.size + 1 + 1 + 1, 1, none⟩ (.string z.f1)).setCell ⟨w.heap.size + 1 + 1 + 1, 2, none⟩ (.int .i64 z.f2)).heap[w.heap.size]? = some (.cells #[.slice A n c] 25 (0, 0)) := far3 q0aa (b := w.heap.size + 1 + 1 + 1) (by omega) (.int .i64 z.f0) (.string z.f1) (.int .i64 z.f2)
  have p1aa : ((((X2).setCell ⟨w.heap.size + 1 + 1 + 1, 0, none⟩ (.int .i64 z.f0)).setCell ⟨w.heap.size + 1 + 1 + 1, 1, none⟩ (.string z.f1)).setCell ⟨w.heap.size + 1 + 1 + 1, 2, none⟩ (.int .i64 z.f2)).heap[w.heap.size + 1]? = some (.cells #[.int .i64 x.f0, .string x.f1, .int .i64 x.f2] 35 (0, 0)) := far3 p1a (b := w.heap.size + 1 + 1 + 1) (by omega) (.int .i64 z.f0) (.string z.f1) (.int .i64 z.f2)
  have p2a : ((((X2).setCell ⟨w.heap.size + 1 + 1 + 1, 0, none⟩ (.int .i64 z.f0)).setCell ⟨w.heap.size + 1 + 1 + 1, 1, none⟩ (.string z.f1)).setCell ⟨w.heap.size + 1 + 1 + 1, 2, none⟩ (.int .i64 z.f2)).heap[w.heap.size + 1 + 1]? = some (.cells #[.int .i64 y.f0, .string y.f1, .int .i64 y.f2] 35 (0, 0)) := far3 p2 (b := w.heap.size + 1 + 1 + 1) (by omega) (.int .i64 z.f0) (.string z.f1) (.int .i64 z.f2)
  have p3 : ((((X2).setCell ⟨w.heap.size + 1 + 1 + 1, 0, none⟩ (.int .i64 z.f0)).setCell ⟨w.heap.size + 1 + 1 + 1, 1, none⟩ (.string z.f1)).setCell ⟨w.heap.size + 1 + 1 + 1, 2, none⟩ (.int .i64 z.f2)).heap[w.heap.size + 1 + 1 + 1]? = some (.cells #[.int .i64 z.f0, .string z.f1, .int .i64 z.f2] 35 (0, 0)) := put35 y3aa (.int .i64 z.f0) (.string z.f1) (.int .i64 z.f2)
  have r3 := R_low3 r2 (b := w.heap.size + 1 + 1 + 1) (by have := HSZ.out; omega) (.int .i64 z.f0) (.string z.f1) (.int .i64 z.f2)
  have b3 : Below w.heap.size w ((((X2).setCell ⟨w.heap.size + 1 + 1 + 1, 0, none⟩ (.int .i64 z.f0)).setCell ⟨w.heap.size + 1 + 1 + 1, 1, none⟩ (.string z.f1)).setCell ⟨w.heap.size + 1 + 1 + 1, 2, none⟩ (.int .i64 z.f2)) := set35b b2 (by omega) _ _ _
  obtain ⟨e1, e2, e3⟩ := Kd.R_reads' r3
  rw [← e1] at e3
  exact bodyPost_ret (res_c4 rfl _ _ rfl q0aaa Try.underlying25 rfl (by kernel_rfl) rfl p1aa Try.underlying35 rfl (by kernel_rfl) rfl p2a Try.underlying35 rfl (by kernel_rfl) rfl p3 Try.underlying35 rfl (by kernel_rfl)) rfl ⟨A, n, c, l, x, y, z, rfl, e3, e2, hn24, hn0, HALL.out, HVX.out, hy, hz, b3⟩
end Go.Proofs.Ytgddblpgbkgpcaa.PR
namespace Go.Proofs.Ytgddblpgbkgpcaa.PR
set_option linter.unusedVariables false
set_option linter.unusedSimpArgs false
open Go.RowKit Go.Proofs.YtgddblpgbkgpcaaW.PrintWords Go.Proofs.YtgddblpgbkgpcaaW.PrintLast Go.Proofs.YtgddblpgbkgpcaaW.PrintMore
set_option linter.unusedVariables false
set_option linter.unusedSimpArgs false
set_option maxRecDepth 100000 in
set_option maxHeartbeats 40000000 in
theorem sameHeap_w (A : Option Addr) (n c : Nat) (A' : Option Addr) (c' : Nat) (l : List S46) (w : World) (h : Kd.C k46 w A n l) (h' : Kd.C k46 w A' n l) (hn : n ≤ 1000) (ho : ∀ o ∈ l, oL o) :
    Calls Try.prog 27 #[.agg #[.slice A n c], .agg #[.slice A' n c']] w fun e w' => e = .returned (.bool true) ∧ Below w.heap.size w w' := by
  have H := Aside0.mk h
  have H' := Aside0.mk h'
  have HO := Aside0.mk ho
  clear h h' ho
  go_enter Try.func27, Try.ntmps27
  have e1 := blk_new (w.alloc (.cells #[.slice A n c] 25)) (.cells #[.slice A' n c'] 25)
  rw [show (w.alloc (.cells #[.slice A n c] 25)).heap.size = w.heap.size + 1 by simp] at e1
  have HS := Aside0.mk (show Below w.heap.size w ((w.alloc (.cells #[.slice A n c] 25)).alloc (.cells #[.slice A' n c'] 25)) ∧ ((w.alloc (.cells #[.slice A n c] 25)).alloc (.cells #[.slice A' n c'] 25)).heap[w.heap.size]? = some (.cells #[.slice A n c] 25 (0, 0)) ∧ ((w.alloc (.cells #[.slice A n c] 25)).alloc (.cells #[.slice A' n c'] 25)).heap[w.heap.size + 1]? = some (.cells #[.slice A' n c'] 25 (0, 0)) from ⟨bla (bla (Below.refl _ _) _) _, kla (blk_new _ _) _, e1⟩)
  clear e1
  go_wp2_with fail
  go_loopw [5] (fun u5 wr => ∃ k : Nat, u5 = .int .i64 k ∧ k ≤ n ∧ Aside0 (Below w.heap.size w wr ∧ wr.heap[w.heap.size]? = some (.cells #[.slice A n c] 25 (0, 0)) ∧ wr.heap[w.heap.size + 1]? = some (.cells #[.slice A' n c'] 25 (0, 0)))) (fun u5 _ => n - (intOf u5).toNat)
  case atStart => exact ⟨0, rfl, Nat.zero_le _, ⟨HS.out⟩⟩
  case round =>
    clear HS
    obtain ⟨k, rfl, hkn, HQ⟩ := hrel
    have qa := (kcl HQ.out.2.1 0).trans (show _ = some (.slice A n c) from rfl)
    have qb := (kcl HQ.out.2.2 0).trans (show _ = some (.slice A' n c') from rfl)
    by_cases hk : k < n
    · obtain ⟨x, ad, A3, c3, A4, c4, A5, c5, A6, c6, hx, hA, g0, g1, g2, g3, g4, g5, g6, h3, h4, h5, h6⟩ := obj_at (Kd.C_below H.out HQ.out.1) k hk
      obtain ⟨y, ad', B3, d3, B4, d4, B5, d5, B6, d6, hy, hB, j0, j1, j2, j3, j4, j5, j6, i3, i4, i5, i6⟩ := obj_at (Kd.C_below H'.out HQ.out.1) k hk
      rw [hx] at hy
      injection hy with hy
      subst hy
      subst hA
      subst hB
      have HSO := Aside0.mk (fun (W' : World) (hb : Below wr.heap.size wr W') => sameObj_w x A3 c3 A4 c4 A5 c5 A6 c6 B3 d3 B4 d4 B5 d5 B6 d6 W' (Rows4.below ⟨h3, h4, h5, h6⟩ hb) (Rows4.below ⟨i3, i4, i5, i6⟩ hb) (HO.out x (List.mem_of_getElem? hx)))
      clear hx h3 h4 h5 h6 i3 i4 i5 i6
      go_wp2_with fail
      have hq0 : Below wr.heap.size wr wr.drew := below_drew (Below.refl _ _)
      refine start_ (n := 12) (S := fun w' => w'.cell? ⟨w.heap.size, 0, none⟩ = some (.slice (some ad) n c) ∧ w'.cell? ⟨w.heap.size + 1, 0, none⟩ = some (.slice (some ad') n c') ∧ w'.cell? (ad.add (k * 7)) = some (.int .i64 x.f0) ∧ w'.cell? ⟨(ad.add (k * 7)).block, (ad.add (k * 7)).off + 1, none⟩ = some (.string x.f1) ∧ w'.cell? ⟨(ad.add (k * 7)).block, (ad.add (k * 7)).off + 2, none⟩ = some (.int .i64 x.f2) ∧ w'.cell? ⟨(ad.add (k * 7)).block, (ad.add (k * 7)).off + 3, none⟩ = some (.slice A3 x.f3.length c3) ∧ w'.cell? ⟨(ad.add (k * 7)).block, (ad.add (k * 7)).off + 4, none⟩ = some (.slice A4 x.f4.length c4) ∧ w'.cell? ⟨(ad.add (k * 7)).block, (ad.add (k * 7)).off + 5, none⟩ = some (.slice A5 x.f5.length c5) ∧ w'.cell? ⟨(ad.add (k * 7)).block, (ad.add (k * 7)).off + 6, none⟩ = some (.slice A6 x.f6.length c6) ∧ w'.cell? (ad'.add (k * 7)) = some (.int .i64 x.f0) ∧ w'.cell? ⟨(ad'.add (k * 7)).block, (ad'.add (k * 7)).off + 1, none⟩ = some (.string x.f1) ∧ w'.cell? ⟨(ad'.add (k * 7)).block, (ad'.add (k * 7)).off + 2, none⟩ = some (.int .i64 x.f2) ∧ w'.cell? ⟨(ad'.add (k * 7)).block, (ad'.add (k * 7)).off + 3, none⟩ = some (.slice B3 x.f3.length d3) ∧ w'.cell? ⟨(ad'.add (k * 7)).block, (ad'.add (k * 7)).off + 4, none⟩ = some (.slice B4 x.f4.length d4) ∧ w'.cell? ⟨(ad'.add (k * 7)).block, (ad'.add (k * 7)).off + 5, none⟩ = some (.slice B5 x.f5.length d5) ∧ w'.cell? ⟨(ad'.add (k * 7)).block, (ad'.add (k * 7)).off + 6, none⟩ = some (.slice B6 x.f6.length d6)) (ds := []) #[false, false, false, false, false, false, false, false, false, false, false, false] (by kernel_rfl) rfl rfl ⟨B.cell_keep hq0 qa, B.cell_keep hq0 qb, B.cell_keep hq0 g0, B.cell_keep hq0 g1, B.cell_keep hq0 g2, B.cell_keep hq0 g3, B.cell_keep hq0 g4, B.cell_keep hq0 g5, B.cell_keep hq0 g6, B.cell_keep hq0 j0, B.cell_keep hq0 j1, B.cell_keep hq0 j2, B.cell_keep hq0 j3, B.cell_keep hq0 j4, B.cell_keep hq0 j5, B.cell_keep hq0 j6⟩ (fun hHeld => ?_)
      generalize wr.drew = w10 at hq0 hHeld ⊢
      refine pure_ (i := 0) (N := some 20) (v := ?_) (a' := ?_) #[true, false, false, false, false, false, false, false, false, false, false, false] rfl rfl (by kernel_rfl) (fun _ _ _ h => h) (Or.inl ⟨by rfl, ?_⟩) ?_ ?_
      rotate_left
      · intro w'
        go_simp
        with_reducible rfl
      rotate_left
      · simp only [Act.put, List.setIfInBounds_toArray, List.set_cons_zero, List.set_cons_succ, i64_w, i32_w]
        rfl
      refine pure_ (i := 2) (N := some 22) (v := ?_) (a' := ?_) #[true, false, true, false, false, false, false, false, false, false, false, false] rfl rfl (by kernel_rfl) (fun _ _ _ h => h) (Or.inl ⟨by rfl, ?_⟩) ?_ ?_
      rotate_left
      · intro w'
        go_simp
        with_reducible rfl
      rotate_left
      · simp only [Act.put, List.setIfInBounds_toArray, List.set_cons_zero, List.set_cons_succ, i64_w, i32_w]
        rfl
      refine pure_ (i := 5) (N := some 25) (v := ?_) (a' := ?_) #[true, false, true, false, false, true, false, false, false, false, false, false] rfl rfl (by kernel_rfl) (fun _ _ _ h => h) (Or.inl ⟨by rfl, ?_⟩) ?_ ?_
      rotate_left
      · intro w'
        go_simp
        with_reducible rfl
      rotate_left
      · simp only [Act.put, List.setIfInBounds_toArray, List.set_cons_zero, List.set_cons_succ, i64_w, i32_w]
        rfl
      refine pure_ (i := 7) (N := some 27) (v := ?_) (a' := ?_) #[true, false, true, false, false, true, false, true, false, false, false, false] rfl rfl (by kernel_rfl) (fun _ _ _ h => h) (Or.inl ⟨by rfl, ?_⟩) ?_ ?_
      rotate_left
      · intro w'
        go_simp
        with_reducible rfl
      rotate_left
      · simp only [Act.put, List.setIfInBounds_toArray, List.set_cons_zero, List.set_cons_succ, i64_w, i32_w]
        rfl
      refine take_ (i := 1) (N := some 21) (v := ?_) (a' := ?_) #[true, true, true, false, false, true, false, true, false, false, false, false] rfl rfl (by kernel_rfl) (fun _ _ _ h => h) (Or.inl ⟨by rfl, ?_⟩) hHeld ?_ ?_
      rotate_left
      · rintro w' ⟨s0, s1, s2, s3, s4, s5, s6, s7, s8, s9, s10, s11, s12, s13, s14, s15⟩
        go_simp
        with_reducible rfl
      rotate_left
      · simp only [Act.put, List.setIfInBounds_toArray, List.set_cons_zero, List.set_cons_succ, i64_w, i32_w]
        rfl
      refine pure_ (i := 3) (N := some 23) (v := ?_) (a' := ?_) #[true, true, true, true, false, true, false, true, false, false, false, false] rfl rfl (by kernel_rfl) (fun _ _ _ h => h) (Or.inl ⟨by rfl, ?_⟩) ?_ ?_
      rotate_left
      · intro w'
        go_simp
        with_reducible rfl
      rotate_left
      · simp only [Act.put, List.setIfInBounds_toArray, List.set_cons_zero, List.set_cons_succ, i64_w, i32_w]
        rfl
      refine take_ (i := 4) (N := some 24) (v := ?_) (a' := ?_) #[true, true, true, true, true, true, false, true, false, false, false, false] rfl rfl (by kernel_rfl) (fun _ _ _ h => h) (Or.inl ⟨by rfl, ?_⟩) hHeld ?_ ?_
      rotate_left
      · rintro w' ⟨s0, s1, s2, s3, s4, s5, s6, s7, s8, s9, s10, s11, s12, s13, s14, s15⟩
        go_simp
        with_reducible rfl
      rotate_left
      · simp only [Act.put, List.setIfInBounds_toArray, List.set_cons_zero, List.set_cons_succ, i64_w, i32_w]
        rfl
      refine take_ (i := 6) (N := some 26) (v := ?_) (a' := ?_) #[true, true, true, true, true, true, true, true, false, false, false, false] rfl rfl (by kernel_rfl) (fun _ _ _ h => h) (Or.inl ⟨by rfl, ?_⟩) hHeld ?_ ?_
      rotate_left
      · rintro w' ⟨s0, s1, s2, s3, s4, s5, s6, s7, s8, s9, s10, s11, s12, s13, s14, s15⟩
        go_simp
        with_reducible rfl
      rotate_left
      · simp only [Act.put, List.setIfInBounds_toArray, List.set_cons_zero, List.set_cons_succ, i64_w, i32_w]
        rfl
      refine pure_ (i := 8) (N := some 28) (v := ?_) (a' := ?_) #[true, true, true, true, true, true, true, true, true, false, false, false] rfl rfl (by kernel_rfl) (fun _ _ _ h => h) (Or.inl ⟨by rfl, ?_⟩) ?_ ?_
      rotate_left
      · intro w'
        go_simp
        with_reducible rfl
      rotate_left
      · simp only [Act.put, List.setIfInBounds_toArray, List.set_cons_zero, List.set_cons_succ, i64_w, i32_w]
        rfl
      refine take_ (i := 9) (N := some 29) (v := ?_) (a' := ?_) #[true, true, true, true, true, true, true, true, true, true, false, false] rfl rfl (by kernel_rfl) (fun _ _ _ h => h) (Or.inl ⟨by rfl, ?_⟩) hHeld ?_ ?_
      rotate_left
      · rintro w' ⟨s0, s1, s2, s3, s4, s5, s6, s7, s8, s9, s10, s11, s12, s13, s14, s15⟩
        go_simp
        with_reducible rfl
      rotate_left
      · simp only [Act.put, List.setIfInBounds_toArray, List.set_cons_zero, List.set_cons_succ, i64_w, i32_w]
        rfl
      refine one_ (i := 10) (N := some 30) #[true, true, true, true, true, true, true, true, true, true, true, false] rfl rfl (by kernel_rfl) (by decide) (fun K hK => ?_)
      refine goes_ Try.func29 (by kernel_rfl) rfl #[.agg #[.int .i64 x.f0, .string x.f1, .int .i64 x.f2, .slice A3 x.f3.length c3, .slice A4 x.f4.length c4, .slice A5 x.f5.length c5, .slice A6 x.f6.length c6], .agg #[.int .i64 x.f0, .string x.f1, .int .i64 x.f2, .slice B3 x.f3.length d3, .slice B4 x.f4.length d4, .slice B5 x.f5.length d5, .slice B6 x.f6.length d6]] (by rfl) rfl rfl (by simp only [List.map_toArray, List.map_cons, List.map_nil]; rfl) ?_
      with_reducible refine (HSO.out _ hq0).mono ?_
      rintro e w12 ⟨rfl, hb⟩
      refine ⟨_, rfl, ?_⟩
      have hq1 := bth hq0 hq0.size hb
      refine hK.out _ _ ⟨B.cell_keep hq1 qa, B.cell_keep hq1 qb, B.cell_keep hq1 g0, B.cell_keep hq1 g1, B.cell_keep hq1 g2, B.cell_keep hq1 g3, B.cell_keep hq1 g4, B.cell_keep hq1 g5, B.cell_keep hq1 g6, B.cell_keep hq1 j0, B.cell_keep hq1 j1, B.cell_keep hq1 j2, B.cell_keep hq1 j3, B.cell_keep hq1 j4, B.cell_keep hq1 j5, B.cell_keep hq1 j6⟩ (fun hHeld => ?_)
      clear hK K
      refine norm_ (a' := ?_) ?_ ?_
      rotate_left
      · show Act.put _ (some 30) _ = _
        simp only [Act.put, List.setIfInBounds_toArray, List.set_cons_zero, List.set_cons_succ, i64_w, i32_w]
        rfl
      refine pure_ (i := 11) (N := some 31) (v := ?_) (a' := ?_) #[true, true, true, true, true, true, true, true, true, true, true, true] rfl rfl (by kernel_rfl) (fun _ _ _ h => h) (Or.inl ⟨by rfl, ?_⟩) ?_ ?_
      rotate_left
      · intro w'
        go_simp
        with_reducible rfl
      rotate_left
      · simp only [Act.put, List.setIfInBounds_toArray, List.set_cons_zero, List.set_cons_succ, i64_w, i32_w]
        rfl
      refine done_ (by kernel_rfl) ?_
      go_wp2_with fail
      go_roundw
      case rel => exact ⟨k + 1, by go_num, hk, ⟨bst HQ.out.1 hq1, kbw HQ.out.2.1 hq1, kbw HQ.out.2.2 hq1⟩⟩
      case measure => simp [intOf]; omega
    · go_wp2_with fail
      go_ret
      exact ⟨rfl, HQ.out.1⟩
end Go.Proofs.Ytgddblpgbkgpcaa.PR
namespace Go.Proofs.Ytgddblpgbkgpcaa.PR
set_option linter.unusedVariables false
set_option linter.unusedSimpArgs false
open Go.RowKit Go.Proofs.YtgddblpgbkgpcaaW.PrintWords Go.Proofs.YtgddblpgbkgpcaaW.PrintLast Go.Proofs.YtgddblpgbkgpcaaW.PrintMore
set_option linter.unusedVariables false
set_option linter.unusedSimpArgs false
structure Yx (X : World) (b : Nat) (y : S35) : Prop where
  y0 : X.cell? ⟨b, 0, none⟩ = some (.int .i64 y.f0)
  y1 : X.cell? ⟨b, 1, none⟩ = some (.string y.f1)
  y2 : X.cell? ⟨b, 2, none⟩ = some (.int .i64 y.f2)
theorem Yx.below {X Y : World} {b : Nat} {y : S35} (h : Yx X b y) (hb : Below X.heap.size X Y) : Yx Y b y := ⟨B.cell_keep hb h.y0, B.cell_keep hb h.y1, B.cell_keep hb h.y2⟩
theorem yx_new (w : World) (y : S35) (W : World) (hW : W = w.alloc (.cells #[.int .i64 y.f0, .string y.f1, .int .i64 y.f2] 35)) : Yx W w.heap.size y := by
  have h1 : W.heap[w.heap.size]? = some (.cells #[.int .i64 y.f0, .string y.f1, .int .i64 y.f2] 35 (0, 0)) := by rw [hW]; exact blk_new _ _
  exact ⟨kcl h1 0, kcl h1 1, kcl h1 2⟩
end Go.Proofs.Ytgddblpgbkgpcaa.PR
namespace Go.Proofs.Ytgddblpgbkgpcaa.PR
set_option linter.unusedVariables false
set_option linter.unusedSimpArgs false
open Go.RowKit Go.Proofs.YtgddblpgbkgpcaaW.PrintWords Go.Proofs.YtgddblpgbkgpcaaW.PrintLast Go.Proofs.YtgddblpgbkgpcaaW.PrintMore
set_option linter.unusedVariables false
set_option linter.unusedSimpArgs false
theorem ds_oL {l l' : List S46} {v k x : S35} {cc : Int} (h : Ds l v k x l' cc) (hob : ∀ o ∈ l, oB o = true) (hl : l.length ≤ 24) : (∀ o ∈ l', oL o) ∧ l'.length ≤ 24 := by
  rcases h with ⟨_, rfl, _⟩ | ⟨_, h⟩
  · exact ⟨by simp, by simp⟩
  · exact ⟨put_oL h hob, by rw [put_len h]; exact hl⟩
theorem ds_good {l l' : List S46} {v k x : S35} (h : Ds l v k x l' (-1)) (hob : ∀ o ∈ l, oB o = true) (hk : k.f1.size ≤ 5) (hx : x.f1.size ≤ 5) : Di l' v k x (-1) ∧ okH l' = true ∧ ∀ o ∈ l', oW o := by
  rcases h with ⟨_, _, h⟩ | ⟨hok, h⟩
  · exact absurd h (by decide)
  · rw [okB_eq, okV_three, Bool.and_eq_true, Bool.and_eq_true, Bool.and_eq_true] at hok
    obtain ⟨hH, hv, hkk, hxx⟩ := hok
    have hH' := okH_put h hH hkk hxx
    refine ⟨.inr ⟨?_, put_got h (fun o ho => (okH_obj hH ho).2)⟩, hH', put_oW h hob hk hx⟩
    rw [okB_eq, okV_two, put_len h, hH', hv, hkk]; rfl
end Go.Proofs.Ytgddblpgbkgpcaa.PR
namespace Go.Proofs.Ytgddblpgbkgpcaa.PR
set_option linter.unusedVariables false
set_option linter.unusedSimpArgs false
open Go.RowKit Go.Proofs.YtgddblpgbkgpcaaW.PrintWords Go.Proofs.YtgddblpgbkgpcaaW.PrintLast Go.Proofs.YtgddblpgbkgpcaaW.PrintMore
set_option linter.unusedVariables false
set_option linter.unusedSimpArgs false
theorem num_ok (n : Nat) (s : ByteArray) (hs : B.intB s = true) : B.valOk n (tV ⟨2, s, 0⟩) = true := by
  unfold B.valOk tV
  simp [hs]
def key5 (k : Nat) : S35 := ⟨2, (if k = 0 then ⟨#[48]⟩ else if k = 1 then ⟨#[49]⟩ else if k = 2 then ⟨#[50]⟩ else if k = 3 then ⟨#[51]⟩ else ⟨#[45, 49]⟩), 0⟩
theorem key5_int (k : Nat) : B.intB (key5 k).f1 = true ∧ (key5 k).f1.size ≤ 5 ∧ (key5 k).f0 = 2 ∧ (key5 k).f2 = 0 := by
  unfold key5
  refine ⟨?_, ?_, rfl, rfl⟩
  · simp only
    split
    · rfl
    · split
      · rfl
      · split
        · rfl
        · split <;> rfl
  · simp only
    split
    · decide
    · split
      · decide
      · split
        · decide
        · split <;> decide
def Ot5 (l l' : List S46) (v x kk a : S35) (one : Int) (b : S35) (two : Int) : Prop := Di l v kk a one ∧ Di l' v kk b two ∧ (a = b ∨ b = x) ∧ (one = -1 → two = -1)
theorem ot5_ex {l l' : List S46} {v k x : S35} (h : Ds l v k x l' (-1)) (m : Nat) : ∃ a one b two, Ot5 l l' v x (key5 m) a one b two := by
  rcases h with ⟨_, _, h⟩ | ⟨hok, h⟩
  · exact absurd h (by decide)
  · rw [okB_eq, okV_three, Bool.and_eq_true, Bool.and_eq_true, Bool.and_eq_true] at hok
    obtain ⟨hH, hv, hkk, hxx⟩ := hok
    have hH' := okH_put h hH hkk hxx
    have hkey : B.valOk l.length (tV (key5 m)) = true := by
      have := num_ok l.length (key5 m).f1 (key5_int m).1
      exact this
    have ok1 : okB l [v, key5 m] = true := by rw [okB_eq, okV_two, hH, hv, hkey]; rfl
    have ok2 : okB l' [v, key5 m] = true := by rw [okB_eq, okV_two, put_len h, hH', hv, hkey]; rfl
    obtain ⟨a, one, h1⟩ := got_ex l v (key5 m) (val_in hv) (fun o ho => (okH_obj hH ho).2)
    obtain ⟨b, two, h2⟩ := got_ex l' v (key5 m) (by rw [put_len h]; exact val_in hv) (fun o ho => (okH_obj hH' ho).2)
    obtain ⟨h3, h4⟩ := put_other h (fun o ho => (okH_obj hH ho).2) (by rw [(key5_int m).2.2.1]; decide) h1 h2
    exact ⟨a, one, b, two, .inr ⟨ok1, h1⟩, .inr ⟨ok2, h2⟩, h3, h4⟩
theorem ot5_ask {l l' : List S46} {v x kk a b : S35} {one two : Int} (h : Ot5 l l' v x kk a one b two) : ((a.f0 = b.f0 ∧ a.f1 = b.f1 ∧ a.f2 = b.f2) ∨ (b.f0 = x.f0 ∧ b.f1 = x.f1 ∧ b.f2 = x.f2)) ∧ (one = -1 → two = -1) := by
  refine ⟨?_, h.2.2.2⟩
  rcases h.2.2.1 with rfl | rfl
  · exact .inl ⟨rfl, rfl, rfl⟩
  · exact .inr ⟨rfl, rfl, rfl⟩
end Go.Proofs.Ytgddblpgbkgpcaa.PR
namespace Go.Proofs.Ytgddblpgbkgpcaa.PR
set_option linter.unusedVariables false
set_option linter.unusedSimpArgs false
open Go.RowKit Go.Proofs.YtgddblpgbkgpcaaW.PrintWords Go.Proofs.YtgddblpgbkgpcaaW.PrintLast Go.Proofs.YtgddblpgbkgpcaaW.PrintMore
set_option linter.unusedVariables false
set_option linter.unusedSimpArgs false
set_option maxRecDepth 100000 in
set_option maxHeartbeats 4000000 in
theorem law11_w (a : Option Addr) (c0 : Nat) (l0 : List Int) (w : World) (hr0 : Kd.C (Kd.int .u8) w a l0.length l0) (hc0 : l0.length ≤ c0) (hw0 : ∀ x ∈ l0, 0 ≤ x ∧ x ≤ 255) :
    Calls Try.prog 11 #[.slice a l0.length c0] w fun e w' => e = .returned (.bool true) ∧ Below w.heap.size w w' := by
  have HDR := Aside0.mk (draw37_w a c0 l0 w hr0 hc0 hw0)
  clear hr0 hc0 hw0
  generalize l0.length = q0 at HDR ⊢
  by_cases hq : (1048576 : Int) < (q0 : Int)
  · go_enter Try.func11, Try.ntmps11
    go_wp2
    go_ret
    exact ⟨rfl, Below.refl _ _⟩
  · go_enter Try.func11, Try.ntmps11
    go_upto_region 4 with (first | (go_at_call 37; refine HDR.out.mono ?_; rintro e w1 ⟨A, n, c, l, v, k, x, rfl, hC, hnc, hn24, hn0, hob, hv, hk, hx, hb1⟩; have HC := Aside0.mk hC; have HB1 := Aside0.mk hb1; have HF := Aside0.mk (show n ≤ c ∧ (∀ o ∈ l, oB o = true) ∧ v.f1.size ≤ 5 ∧ k.f1.size ≤ 5 ∧ x.f1.size ≤ 5 from ⟨hnc, hob, hv.1, hk.1, hx.1⟩); clear hC hnc hob hv hk hx hb1))
    obtain ⟨W1, hW1⟩ : ∃ W1 : World, W1 = (((w1.alloc (.cells #[.slice A n c] 25)).alloc (.cells #[.int .i64 v.f0, .string v.f1, .int .i64 v.f2] 35)).alloc (.cells #[.int .i64 k.f0, .string k.f1, .int .i64 k.f2] 35)).alloc (.cells #[.int .i64 x.f0, .string x.f1, .int .i64 x.f2] 35) := ⟨_, rfl⟩
    rw [← hW1]
    have BX := Aside0.mk (bw_new w1 n c A v k x W1 hW1)
    replace HC := Aside0.mk (Kd.C_below HC.out BX.out.bl)
    obtain ⟨p0, v0, v1, v2, k0, k1, k2, x0, x1, x2, -⟩ := BX.out
    clear hW1
    obtain ⟨b1, hb1⟩ : ∃ b1, b1 = w1.heap.size := ⟨_, rfl⟩
    rw [← hb1] at BX p0 v0 v1 v2 k0 k1 k2 x0 x1 x2 ⊢
    clear hb1
    obtain ⟨l', cc, hds⟩ := ds_ex l v k x
    have HDS := Aside0.mk hds
    have HLL := Aside0.mk (ds_oL hds HF.out.2.1 (by have := HC.out.1; omega))
    have HI := Aside0.mk (fun (X : World) (hX : Kd.C k46 X A n l) => doSetI_w A n c l l' v k x cc X hX HF.out.1 (by omega) hn0 HF.out.2.1 HF.out.2.2.1 HF.out.2.2.2.1 HF.out.2.2.2.2 HDS.out)
    have HS := Aside0.mk (fun (X : World) (hX : Kd.C k46 X A n l) => doSetS_w A n c l l' v k x cc X hX HF.out.1 (by omega) hn0 HF.out.2.1 HF.out.2.2.1 HF.out.2.2.2.1 HF.out.2.2.2.2 HDS.out)
    clear hds
    go_upto_region 5 with (first | (go_at_call 36; refine (HI.out _ HC.out).mono ?_; rintro e w2 ⟨A7, n7, c7, rfl, hC7, hc7, hB⟩; have HC7 := Aside0.mk hC7; have HN7 := Aside0.mk hc7; replace BX := Aside0.mk (BX.out.below hB); clear p0 v0 v1 v2 k0 k1 k2 x0 x1 x2; obtain ⟨p0, v0, v1, v2, k0, k1, k2, x0, x1, x2, -⟩ := BX.out; replace HC := Aside0.mk (Kd.C_below HC.out hB); clear hB hC7 hc7))
    obtain ⟨W2, hW2⟩ : ∃ W2 : World, W2 = w2.alloc (.cells #[.slice A7 n7 c7] 25) := ⟨_, rfl⟩
    have hB : Below w2.heap.size w2 W2 := by rw [hW2]; exact bla (Below.refl _ _) _
    have hdd : W2.heap[w2.heap.size]? = some (.cells #[.slice A7 n7 c7] 25 (0, 0)) := by rw [hW2]; exact blk_new _ _
    rw [← hW2]
    have dn := (kcl hdd 0).trans (show _ = some (.slice A7 n7 c7) from rfl)
    obtain ⟨b7, hb7⟩ : ∃ b7, b7 = w2.heap.size := ⟨_, rfl⟩
    rw [← hb7] at dn ⊢
    clear hW2 hb7 hdd
    replace BX := Aside0.mk (BX.out.below hB)
    clear p0 v0 v1 v2 k0 k1 k2 x0 x1 x2
    obtain ⟨p0, v0, v1, v2, k0, k1, k2, x0, x1, x2, -⟩ := BX.out
    replace HC := Aside0.mk (Kd.C_below HC.out hB)
    have d7 := dn
    replace HC7 := Aside0.mk (Kd.C_below HC7.out hB)
    clear hB dn

    go_upto_region 6 with (first | (go_at_call 38; refine (HS.out _ HC.out).mono ?_; rintro e w3 ⟨A9, n9, c9, rfl, hC9, hc9, hB⟩; have HC9 := Aside0.mk hC9; replace BX := Aside0.mk (BX.out.below hB); clear p0 v0 v1 v2 k0 k1 k2 x0 x1 x2; obtain ⟨p0, v0, v1, v2, k0, k1, k2, x0, x1, x2, -⟩ := BX.out; replace HC := Aside0.mk (Kd.C_below HC.out hB); replace HC7 := Aside0.mk (Kd.C_below HC7.out hB); have d72 := B.cell_keep hB d7; clear d7; have d7 := d72; clear d72; clear hB hC9 hc9))
    obtain ⟨W3, hW3⟩ : ∃ W3 : World, W3 = w3.alloc (.cells #[.slice A9 n9 c9] 25) := ⟨_, rfl⟩
    have hB : Below w3.heap.size w3 W3 := by rw [hW3]; exact bla (Below.refl _ _) _
    have hdd : W3.heap[w3.heap.size]? = some (.cells #[.slice A9 n9 c9] 25 (0, 0)) := by rw [hW3]; exact blk_new _ _
    rw [← hW3]
    have dn := (kcl hdd 0).trans (show _ = some (.slice A9 n9 c9) from rfl)
    obtain ⟨b9, hb9⟩ : ∃ b9, b9 = w3.heap.size := ⟨_, rfl⟩
    rw [← hb9] at dn ⊢
    clear hW3 hb9 hdd
    replace BX := Aside0.mk (BX.out.below hB)
    clear p0 v0 v1 v2 k0 k1 k2 x0 x1 x2
    obtain ⟨p0, v0, v1, v2, k0, k1, k2, x0, x1, x2, -⟩ := BX.out
    replace HC := Aside0.mk (Kd.C_below HC.out hB)
    replace HC7 := Aside0.mk (Kd.C_below HC7.out hB)
    have d72 := B.cell_keep hB d7
    clear d7
    have d7 := d72
    clear d72
    have d9 := dn
    replace HC9 := Aside0.mk (Kd.C_below HC9.out hB)
    clear hB dn

    have hnn : n9 = n7 := HC9.out.1.symm.trans HC7.out.1
    subst hnn
    have hn9 : n9 ≤ 24 := by have := HLL.out.2; have := HC7.out.1; omega
    have HSM := Aside0.mk (fun (X : World) (h7 : Kd.C k46 X A7 n9 l') (h9 : Kd.C k46 X A9 n9 l') => sameHeap_w A7 n9 c7 A9 c9 l' X h7 h9 (by omega) HLL.out.1)
    by_cases hcc : cc = -1
    · subst hcc
      have HG := Aside0.mk (ds_good HDS.out HF.out.2.1 HF.out.2.2.2.1 HF.out.2.2.2.2)
      have HIL := Aside0.mk (fun (X : World) (hX : Kd.C k46 X A n l) (kk y : S35) (dd : Int) (hk5 : kk.f1.size ≤ 5) (hdi : Di l v kk y dd) => doIndexI_w A n c l v kk y dd X hX HF.out.1 (by omega) HF.out.2.1 HF.out.2.2.1 hk5 hdi)
      have HIX := Aside0.mk (fun (X : World) (hX : Kd.C k46 X A7 n9 l') (kk y : S35) (dd : Int) (hk5 : kk.f1.size ≤ 5) (hdi : Di l' v kk y dd) => doIndexW_w A7 n9 c7 l' v kk y dd X hX HN7.out (by omega) HG.out.2.2 HF.out.2.2.1 hk5 hdi)
      go_upto_region 8 with (first | (go_at_call 27; refine (HSM.out _ HC7.out HC9.out).mono ?_; rintro e w4 ⟨rfl, hB⟩; replace BX := Aside0.mk (BX.out.below hB); clear p0 v0 v1 v2 k0 k1 k2 x0 x1 x2; obtain ⟨p0, v0, v1, v2, k0, k1, k2, x0, x1, x2, -⟩ := BX.out; replace HC := Aside0.mk (Kd.C_below HC.out hB); replace HC7 := Aside0.mk (Kd.C_below HC7.out hB); have d72 := B.cell_keep hB d7; clear d7; have d7 := d72; clear d72; replace HC9 := Aside0.mk (Kd.C_below HC9.out hB); have d92 := B.cell_keep hB d9; clear d9; have d9 := d92; clear d92; clear hB))
      go_wp2_with fail
      obtain ⟨X, hX⟩ : ∃ X : World, X = w4 := ⟨_, rfl⟩
      have HX := Lib.hid hX
      clear hX
      go_loopw [11] (fun u11 wr => ∃ m : Nat, u11 = .int .i64 m ∧ m ≤ 5 ∧ Aside0 (Below w4.heap.size w4 wr)) (fun u11 _ => 5 - (intOf u11).toNat)
      case atStart => exact ⟨0, rfl, Nat.zero_le _, ⟨Below.refl _ _⟩⟩
      case round =>
        obtain ⟨m, rfl, hm5, HQ⟩ := hrel
        have hB := HQ.out
        replace BX := Aside0.mk (BX.out.below hB); clear p0 v0 v1 v2 k0 k1 k2 x0 x1 x2; obtain ⟨p0, v0, v1, v2, k0, k1, k2, x0, x1, x2, -⟩ := BX.out; replace HC := Aside0.mk (Kd.C_below HC.out hB); replace HC7 := Aside0.mk (Kd.C_below HC7.out hB); have d72 := B.cell_keep hB d7; clear d7; have d7 := d72; clear d72; replace HC9 := Aside0.mk (Kd.C_below HC9.out hB); have d92 := B.cell_keep hB d9; clear d9; have d9 := d92; clear d92
        clear hB
        by_cases hm : m < 5
        · obtain ⟨a, one, b, two, hot⟩ := ot5_ex HDS.out m
          have HOT := Aside0.mk hot
          clear hot
          have hk5 : (wr.alloc (.cells #[.string ⟨#[48]⟩, .string ⟨#[49]⟩, .string ⟨#[50]⟩, .string ⟨#[51]⟩, .string ⟨#[45, 49]⟩] 9)).cell? ⟨wr.heap.size, m, none⟩ = some (.string (key5 m).f1) := by
            obtain rfl | rfl | rfl | rfl | rfl : m = 0 ∨ m = 1 ∨ m = 2 ∨ m = 3 ∨ m = 4 := by omega
            all_goals exact (kcl (blk_new _ _) _).trans rfl
          have hm5i : (m : Int) < 5 := by omega
          have hm0i : (0 : Int) ≤ (m : Int) := Int.natCast_nonneg _
          go_upto_region 12 with (fail)
          obtain ⟨W5, hW5⟩ : ∃ W5 : World, W5 = (wr.alloc (.cells #[.string ⟨#[48]⟩, .string ⟨#[49]⟩, .string ⟨#[50]⟩, .string ⟨#[51]⟩, .string ⟨#[45, 49]⟩] 9)).alloc (.cells #[.int .i64 2, .string (key5 m).f1, .int .i64 0] 35) := ⟨_, rfl⟩
          rw [← hW5]
          have YY := Aside0.mk (yx_new _ (key5 m) W5 hW5)
          have hB : Below wr.heap.size wr W5 := by rw [hW5]; exact bla (bla (Below.refl _ _) _) _
          rw [World.size_alloc] at YY
          obtain ⟨b5, hb5⟩ : ∃ b5, b5 = wr.heap.size + 1 := ⟨_, rfl⟩
          rw [← hb5] at YY ⊢
          clear hW5 hb5 hk5
          have HK5 := Aside0.mk (key5_int m).2.1
          generalize key5 m = kk at YY HOT HK5
          obtain ⟨y0, y1, y2⟩ := YY.out
          replace BX := Aside0.mk (BX.out.below hB)
          clear p0 v0 v1 v2 k0 k1 k2 x0 x1 x2
          obtain ⟨p0, v0, v1, v2, k0, k1, k2, x0, x1, x2, -⟩ := BX.out
          replace HC := Aside0.mk (Kd.C_below HC.out hB)
          replace HC7 := Aside0.mk (Kd.C_below HC7.out hB)
          have d72 := B.cell_keep hB d7
          clear d7
          have d7 := d72
          clear d72
          replace HC9 := Aside0.mk (Kd.C_below HC9.out hB)
          have d92 := B.cell_keep hB d9
          clear d9
          have d9 := d92
          clear d92
          replace HQ := Aside0.mk (bth HQ.out HQ.out.size hB)
          clear hB
          go_upto_region 13 with (first | (go_at_call 34; refine (HIL.out _ HC.out kk a one HK5.out HOT.out.1).mono ?_; rintro e w6 ⟨rfl, hB⟩; replace BX := Aside0.mk (BX.out.below hB); clear p0 v0 v1 v2 k0 k1 k2 x0 x1 x2; obtain ⟨p0, v0, v1, v2, k0, k1, k2, x0, x1, x2, -⟩ := BX.out; replace HC := Aside0.mk (Kd.C_below HC.out hB); replace HC7 := Aside0.mk (Kd.C_below HC7.out hB); have d72 := B.cell_keep hB d7; clear d7; have d7 := d72; clear d72; replace HC9 := Aside0.mk (Kd.C_below HC9.out hB); have d92 := B.cell_keep hB d9; clear d9; have d9 := d92; clear d92; replace HQ := Aside0.mk (bth HQ.out HQ.out.size hB); replace YY := Aside0.mk (YY.out.below hB); clear y0 y1 y2; obtain ⟨y0, y1, y2⟩ := YY.out; clear hB))
          obtain ⟨W6, hW6⟩ : ∃ W6 : World, W6 = w6.alloc (.cells #[.int .i64 a.f0, .string a.f1, .int .i64 a.f2] 35) := ⟨_, rfl⟩
          have hB : Below w6.heap.size w6 W6 := by rw [hW6]; exact bla (Below.refl _ _) _
          have YE := Aside0.mk (yx_new w6 a W6 hW6)
          rw [← hW6]
          obtain ⟨b6, hb6⟩ : ∃ b6, b6 = w6.heap.size := ⟨_, rfl⟩
          rw [← hb6] at YE ⊢
          clear hW6 hb6
          obtain ⟨e0, e1, e2⟩ := YE.out
          replace BX := Aside0.mk (BX.out.below hB)
          clear p0 v0 v1 v2 k0 k1 k2 x0 x1 x2
          obtain ⟨p0, v0, v1, v2, k0, k1, k2, x0, x1, x2, -⟩ := BX.out
          replace HC := Aside0.mk (Kd.C_below HC.out hB)
          replace HC7 := Aside0.mk (Kd.C_below HC7.out hB)
          have d72 := B.cell_keep hB d7
          clear d7
          have d7 := d72
          clear d72
          replace HC9 := Aside0.mk (Kd.C_below HC9.out hB)
          have d92 := B.cell_keep hB d9
          clear d9
          have d9 := d92
          clear d92
          replace HQ := Aside0.mk (bth HQ.out HQ.out.size hB)
          replace YY := Aside0.mk (YY.out.below hB)
          clear y0 y1 y2
          obtain ⟨y0, y1, y2⟩ := YY.out
          clear hB

          go_upto_region 14 with (first | (go_at_call 34; refine (HIX.out _ HC7.out kk b two HK5.out HOT.out.2.1).mono ?_; rintro e w7 ⟨rfl, hB⟩; replace BX := Aside0.mk (BX.out.below hB); clear p0 v0 v1 v2 k0 k1 k2 x0 x1 x2; obtain ⟨p0, v0, v1, v2, k0, k1, k2, x0, x1, x2, -⟩ := BX.out; replace HC := Aside0.mk (Kd.C_below HC.out hB); replace HC7 := Aside0.mk (Kd.C_below HC7.out hB); have d72 := B.cell_keep hB d7; clear d7; have d7 := d72; clear d72; replace HC9 := Aside0.mk (Kd.C_below HC9.out hB); have d92 := B.cell_keep hB d9; clear d9; have d9 := d92; clear d92; replace HQ := Aside0.mk (bth HQ.out HQ.out.size hB); replace YY := Aside0.mk (YY.out.below hB); clear y0 y1 y2; obtain ⟨y0, y1, y2⟩ := YY.out; replace YE := Aside0.mk (YE.out.below hB); clear e0 e1 e2; obtain ⟨e0, e1, e2⟩ := YE.out; clear hB))
          obtain ⟨W7, hW7⟩ : ∃ W7 : World, W7 = w7.alloc (.cells #[.int .i64 b.f0, .string b.f1, .int .i64 b.f2] 35) := ⟨_, rfl⟩
          have hB : Below w7.heap.size w7 W7 := by rw [hW7]; exact bla (Below.refl _ _) _
          have YF := Aside0.mk (yx_new w7 b W7 hW7)
          rw [← hW7]
          obtain ⟨b8, hb8⟩ : ∃ b8, b8 = w7.heap.size := ⟨_, rfl⟩
          rw [← hb8] at YF ⊢
          clear hW7 hb8
          obtain ⟨f0, f1, f2⟩ := YF.out
          replace BX := Aside0.mk (BX.out.below hB)
          clear p0 v0 v1 v2 k0 k1 k2 x0 x1 x2
          obtain ⟨p0, v0, v1, v2, k0, k1, k2, x0, x1, x2, -⟩ := BX.out
          replace HC := Aside0.mk (Kd.C_below HC.out hB)
          replace HC7 := Aside0.mk (Kd.C_below HC7.out hB)
          have d72 := B.cell_keep hB d7
          clear d7
          have d7 := d72
          clear d72
          replace HC9 := Aside0.mk (Kd.C_below HC9.out hB)
          have d92 := B.cell_keep hB d9
          clear d9
          have d9 := d92
          clear d92
          replace HQ := Aside0.mk (bth HQ.out HQ.out.size hB)
          replace YY := Aside0.mk (YY.out.below hB)
          clear y0 y1 y2
          obtain ⟨y0, y1, y2⟩ := YY.out
          replace YE := Aside0.mk (YE.out.below hB)
          clear e0 e1 e2
          obtain ⟨e0, e1, e2⟩ := YE.out
          clear hB

          have HAK := Aside0.mk (ot5_ask HOT.out)
          have HOO := Aside0.mk HOT.out.2.2.1
          by_cases hab : a = b
          · subst hab
            by_cases h1 : one = -1
            · obtain rfl := h1
              obtain rfl := HAK.out.2 rfl
              go_wp2_with fail
              go_roundw
              case rel => exact ⟨m + 1, by go_num, by omega, HQ⟩
              case measure => simp [intOf]; omega
            · have g1 : (one == -1) = false := by simpa using h1
              clear h1
              go_wp2_with fail
              go_roundw
              case rel => exact ⟨m + 1, by go_num, by omega, HQ⟩
              case measure => simp [intOf]; omega
          · obtain rfl : b = x := HOO.out.resolve_left hab
            have hne := s35_ne hab
            clear hab
            by_cases h1 : one = -1
            · obtain rfl := h1
              obtain rfl := HAK.out.2 rfl
              rcases hne with hd | ⟨hd, hd1⟩ | ⟨hd, hd1, hd2⟩
              · have g0 : (a.f0 == b.f0) = false := by simp only [beq_eq_false_iff_ne]; exact fun e => hd e
                clear hd
                go_wp2_with fail
                go_roundw
                case rel => exact ⟨m + 1, by go_num, by omega, HQ⟩
                case measure => simp [intOf]; omega
              · rw [hd] at e0
                have g0 := toList_ne (fun e : a.f1 = b.f1 => hd1 e)
                clear hd hd1
                go_wp2_with fail
                go_roundw
                case rel => exact ⟨m + 1, by go_num, by omega, HQ⟩
                case measure => simp [intOf]; omega
              · rw [hd] at e0
                rw [hd1] at e1
                have g0 : (a.f2 == b.f2) = false := by simp only [beq_eq_false_iff_ne]; exact fun e => hd2 e
                clear hd hd1 hd2
                go_wp2_with fail
                go_roundw
                case rel => exact ⟨m + 1, by go_num, by omega, HQ⟩
                case measure => simp [intOf]; omega
            · have g1 : (one == -1) = false := by simpa using h1
              clear h1
              rcases hne with hd | ⟨hd, hd1⟩ | ⟨hd, hd1, hd2⟩
              · have g0 : (a.f0 == b.f0) = false := by simp only [beq_eq_false_iff_ne]; exact fun e => hd e
                clear hd
                go_wp2_with fail
                go_roundw
                case rel => exact ⟨m + 1, by go_num, by omega, HQ⟩
                case measure => simp [intOf]; omega
              · rw [hd] at e0
                have g0 := toList_ne (fun e : a.f1 = b.f1 => hd1 e)
                clear hd hd1
                go_wp2_with fail
                go_roundw
                case rel => exact ⟨m + 1, by go_num, by omega, HQ⟩
                case measure => simp [intOf]; omega
              · rw [hd] at e0
                rw [hd1] at e1
                have g0 : (a.f2 == b.f2) = false := by simp only [beq_eq_false_iff_ne]; exact fun e => hd2 e
                clear hd hd1 hd2
                go_wp2_with fail
                go_roundw
                case rel => exact ⟨m + 1, by go_num, by omega, HQ⟩
                case measure => simp [intOf]; omega

        · obtain rfl : m = 5 := by omega
          go_wp2_with fail
          go_ret
          exact ⟨rfl, bst HB1.out BX.out.bl⟩
    · have hccb : (cc == -1) = false := by simpa using hcc
      clear hcc
      go_wp2_with (first | (go_at_call 27; refine (HSM.out _ HC7.out HC9.out).mono ?_; rintro e w4 ⟨rfl, hB⟩; replace BX := Aside0.mk (BX.out.below hB); clear p0 v0 v1 v2 k0 k1 k2 x0 x1 x2; obtain ⟨p0, v0, v1, v2, k0, k1, k2, x0, x1, x2, -⟩ := BX.out; replace HC := Aside0.mk (Kd.C_below HC.out hB); replace HC7 := Aside0.mk (Kd.C_below HC7.out hB); have d72 := B.cell_keep hB d7; clear d7; have d7 := d72; clear d72; replace HC9 := Aside0.mk (Kd.C_below HC9.out hB); have d92 := B.cell_keep hB d9; clear d9; have d9 := d92; clear d92; clear hB))
      go_ret
      exact ⟨rfl, bst HB1.out BX.out.bl⟩
end Go.Proofs.Ytgddblpgbkgpcaa.PR
