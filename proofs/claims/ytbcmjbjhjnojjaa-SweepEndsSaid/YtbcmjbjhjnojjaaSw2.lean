/-
The plain laws of a sweep's calls: at a state that may be, each call tells what the document's tells. No memory here.
-/
import Derived.Test.YtbcmjbjhjnojjaaSw
namespace Go.Proofs.Ytbcmjbjhjnojjaa.H
open Go.RowKit Go.Proofs.YtbcmjbjhjnojjaaW.PrintWords Go.Proofs.YtbcmjbjhjnojjaaW.PrintLast Go.Proofs.YtbcmjbjhjnojjaaW.PrintMore
abbrev Res := List Int × Int × Int × Int × Int
def bad : Res := ([], 0, 0, 0, 1)
def seenR (l : List Int) (v s n : Int) : Res := if v ≠ -1 ∧ s < n then (l, v, s + 1, n, 0) else bad
def givenR (l : List Int) (v s n : Int) : Res := if v ≠ -1 ∧ ¬ s < n then (l, -1, 0, 0, 0) else bad
def beginR (l : List Int) (v : Int) (q : List Int) : Res := if v = -1 ∧ l.length = 0 ∧ rt q (-1) 0 0 = true then (q, -1, 0, 0, 0) else bad
def takeR (l : List Int) (v seg nn : Int) : Res := if v = -1 ∧ seg ∈ l ∧ 0 ≤ nn ∧ nn ≤ 30 then (l.filter (· != seg), seg, 0, nn, 0) else bad
theorem rt_tl {l : List Int} {v s n : Int} (h : rt l v s n = true) : (v = -1 ∧ s = 0 ∧ n = 0) ∨ (0 ≤ v ∧ v ≤ 15 ∧ 0 ≤ n ∧ n ≤ 30 ∧ 0 ≤ s ∧ s ≤ n) := by
  have := (rtf_all _ _ h).2
  unfold tl at this
  by_cases hv : v = -1
  · rw [if_pos hv] at this
    simp at this
    exact .inl ⟨hv, this⟩
  · rw [if_neg hv] at this
    simp at this
    omega
theorem next_is {l : List Int} {v s n : Int} (h : rt l v s n = true) (g : Bool) : ∃ x : Int, sweep_Next.f 61 l v s n g = some x ∧ lodgerref15_Next.f 61 l v s n g = some x ∧ (x = 3 ↔ (v ≠ -1 ∧ s < n)) ∧ (x = 4 ↔ (v ≠ -1 ∧ ¬ s < n)) := by
  have ht := rt_tl h
  simp only [sweep_Next.f, sweep_Next.j0, lodgerref15_Next.f, lodgerref15_Next.j0]
  by_cases hv : v = -1
  · rw [if_pos hv, if_neg (show ¬ v ≥ 0 by omega)]
    simp only [Bool.false_eq_true, if_false]
    rw [if_pos hv, if_neg (show ¬ v ≥ 0 by omega)]
    by_cases hl : (l.length : Int) > 0
    · rw [if_pos hl, if_pos hl]
      exact ⟨2, by unfold wrap64; rfl, rfl, by omega, by omega⟩
    · rw [if_neg hl, if_neg hl]
      cases g with
      | true => exact ⟨1, by unfold wrap64; rfl, rfl, by omega, by omega⟩
      | false => exact ⟨0, rfl, rfl, by omega, by omega⟩
  · rw [if_neg hv, if_pos (show v ≥ 0 by omega)]
    by_cases hs : s < n
    · rw [decide_eq_true hs, if_pos rfl, if_pos rfl]
      exact ⟨3, rfl, rfl, by omega, by omega⟩
    · rw [decide_eq_false hs]
      simp only [Bool.false_eq_true, if_false]
      rw [if_neg hv, if_pos (show v ≥ 0 by omega)]
      exact ⟨4, rfl, rfl, by omega, by omega⟩
theorem seen_is {l : List Int} {v s n : Int} (h : rt l v s n = true) : sweep_Seen.f 61 l v s n = some (seenR l v s n) ∧ lodgerref15_Seen.f 61 l v s n = some (seenR l v s n) := by
  have ht := rt_tl h
  have h16 := rt_few h
  obtain ⟨x, h1, h2, h3, _⟩ := next_is h false
  simp only [sweep_Seen.f, lodgerref15_Seen.f, h1, h2, Option.bind_some, seenR, sweep_own.f]
  by_cases hc : v ≠ -1 ∧ s < n
  · have hw : wrap64 (s + 1) = s + 1 := by unfold wrap64; omega
    rw [if_pos (h3.2 hc), if_pos (h3.2 hc), if_pos hc, if_pos (by omega), if_pos (by simp; omega)]
    simp only [Option.bind_some, hw, List.nil_append, and_self]
  · rw [if_neg (fun e => hc (h3.1 e)), if_neg (fun e => hc (h3.1 e)), if_neg hc]
    exact ⟨rfl, rfl⟩
theorem given_is {l : List Int} {v s n : Int} (h : rt l v s n = true) : sweep_Given.f 61 l v s n = some (givenR l v s n) ∧ lodgerref15_Given.f 61 l v s n = some (givenR l v s n) := by
  have h16 := rt_few h
  obtain ⟨x, h1, h2, _, h4⟩ := next_is h false
  simp only [sweep_Given.f, lodgerref15_Given.f, h1, h2, Option.bind_some, givenR, sweep_own.f]
  by_cases hc : v ≠ -1 ∧ ¬ s < n
  · rw [if_pos (h4.2 hc), if_pos (h4.2 hc), if_pos hc, if_pos (by omega), if_pos (by simp; omega)]
    exact ⟨rfl, rfl⟩
  · rw [if_neg (fun e => hc (h4.1 e)), if_neg (fun e => hc (h4.1 e)), if_neg hc]
    exact ⟨rfl, rfl⟩
theorem begin_is {l : List Int} {v s n : Int} (h : rt l v s n = true) (q : List Int) (hq : q.length ≤ 20) : sweep_Begin.f 61 l v s n q = some (beginR l v q) ∧ lodgerref15_Begin.f 61 l v s n q = some (beginR l v q) := by
  have ht := rt_tl h
  simp only [sweep_Begin.f, lodgerref15_Begin.f, sweep_own.f, Option.bind_some, beginR, List.nil_append, List.length_nil]
  rw [if_pos (show q.length ≤ 17592186044416 by omega), if_pos (show 0 + q.length < 17592186044416 by omega)]
  simp only [Option.bind_some]
  rw [right_is q (-1) 0 0 hq 61 (by omega), ref_right_is q (-1) 0 0 hq 61 (by omega)]
  by_cases hv : v = -1
  · rw [if_pos hv, if_neg (show ¬ v ≥ 0 by omega)]
    by_cases hl : (l.length : Int) > 0
    · rw [if_pos hl, if_neg (by omega)]
      exact ⟨rfl, rfl⟩
    · rw [if_neg hl]
      simp only [Option.bind_some]
      by_cases e : rt q (-1) 0 0 = true
      · rw [if_pos (show v = -1 ∧ l.length = 0 ∧ rt q (-1) 0 0 = true from ⟨hv, by omega, e⟩), if_pos e]
        exact ⟨rfl, rfl⟩
      · rw [if_neg (show ¬ (v = -1 ∧ l.length = 0 ∧ rt q (-1) 0 0 = true) from fun hc => e hc.2.2), if_neg e]
        exact ⟨rfl, rfl⟩
  · rw [if_neg hv, if_pos (show v ≥ 0 by omega), if_neg (by omega)]
    exact ⟨rfl, rfl⟩
theorem ref_take_tells (l : List Int) (v s n seg nn : Int) (hn : l.length ≤ 20) : ∀ (d k i : Nat), i ≤ l.length → l.length - i = d → d < k →
    lodgerref15_Take.l0 k seg i l v s n ((l.take i).filter (· != seg)) seg 0 nn = some (l.filter (· != seg), seg, 0, nn, 0) := by
  intro d
  induction d with
  | zero =>
    intro k i hi hd hk
    obtain ⟨k, rfl⟩ : ∃ m, k = m + 1 := ⟨k - 1, by omega⟩
    simp only [lodgerref15_Take.l0]
    rw [if_neg (by omega), List.take_of_length_le (by omega)]
  | succ d ih =>
    intro k i hi hd hk
    obtain ⟨k, rfl⟩ : ∃ m, k = m + 1 := ⟨k - 1, by omega⟩
    have hw : wrap64 ((i : Int) + 1) = ((i + 1 : Nat) : Int) := by unfold wrap64; omega
    have h2 := ih k (i + 1) (by omega) (by omega) (by omega)
    rw [List.take_succ_eq_append_getElem (by omega), List.filter_append] at h2
    have e2 : l[i]'(by omega) = l.getD i 0 := by simp [List.getD_eq_getElem?_getD, List.getElem?_eq_getElem (show i < l.length by omega)]
    rw [e2] at h2
    have hlen : ((l.take i).filter (· != seg)).length ≤ 20 := by
      have h1 := List.length_filter_le (· != seg) (l.take i)
      rw [List.length_take] at h1
      omega
    simp only [lodgerref15_Take.l0]
    rw [if_pos (by omega), if_pos (by omega), rd_nat, hw]
    by_cases hx : l.getD i 0 = seg
    · rw [if_pos hx]
      have e3 : [l.getD i 0].filter (· != seg) = [] := by simp only [List.filter_cons, hx]; simp
      rw [e3, List.append_nil] at h2
      exact h2
    · rw [if_neg hx, if_pos (by omega)]
      have e3 : [l.getD i 0].filter (· != seg) = [l.getD i 0] := by
        rw [List.filter_cons, if_pos (bne_iff_ne.mpr hx)]
        rfl
      rw [e3] at h2
      exact h2
theorem take_is {l : List Int} {v s n : Int} (h : rt l v s n = true) (seg nn : Int) : sweep_Take.f 61 l v s n seg nn = some (takeR l v seg nn) ∧ lodgerref15_Take.f 61 l v s n seg nn = some (takeR l v seg nn) := by
  have ht := rt_tl h
  have h16 := rt_few h
  refine ⟨?_, ?_⟩
  · obtain ⟨p, hp, hh⟩ := index_is l seg (by omega) 61 (by omega)
    simp only [sweep_Take.f, hp, Option.bind_some, takeR]
    rcases hh with ⟨rfl, hno⟩ | ⟨j, rfl, hj, e, _⟩
    · rw [if_neg (by omega), if_neg (fun hc => hno hc.2.1)]
      rfl
    · have hin : seg ∈ l := e ▸ getD_mem hj
      by_cases hc : v = -1 ∧ 0 ≤ nn ∧ nn ≤ 30
      · rw [if_pos (show v = -1 ∧ 0 ≤ (j : Int) ∧ 0 ≤ nn ∧ nn ≤ 30 from ⟨hc.1, by omega, hc.2⟩), if_pos (show v = -1 ∧ seg ∈ l ∧ 0 ≤ nn ∧ nn ≤ 30 from ⟨hc.1, hin, hc.2⟩), if_pos (show (j : Int) < l.length ∧ l.length ≤ 17592186044416 from ⟨by omega, by omega⟩), Int.toNat_natCast, erase_filter (rt_nodup h) hj, e]
      · rw [if_neg (fun hd => hc ⟨hd.1, hd.2.2⟩), if_neg (fun hd => hc ⟨hd.1, hd.2.2⟩)]
        rfl
  · simp only [lodgerref15_Take.f, takeR, in_is l seg (by omega) 61 (by omega), Option.bind_some]
    have hl0 := ref_take_tells l v s n seg nn (by omega) l.length 60 0 (by omega) (by omega) (by omega)
    rw [List.take_zero, List.filter_nil] at hl0
    by_cases hv : v = -1
    · rw [if_neg (show ¬ v ≥ 0 by omega)]
      by_cases hin : seg ∈ l
      · rw [if_pos (decide_eq_true hin)]
        by_cases h1 : nn < 0
        · rw [if_pos h1, if_neg (by omega)]
          simp only [lodgerref15_Take.j0, if_true]
          rfl
        · rw [if_neg h1]
          simp only [lodgerref15_Take.j0]
          by_cases h2 : nn > 30
          · rw [if_pos (decide_eq_true h2), if_neg (by omega)]
            rfl
          · rw [if_neg (by rw [decide_eq_false h2]; decide), if_pos ⟨hv, hin, by omega, by omega⟩]
            exact hl0
      · rw [if_neg (by rw [decide_eq_false hin]; decide), if_neg (fun hc => hin hc.2.1)]
        simp only [lodgerref15_Take.j0, if_true]
        rfl
    · rw [if_pos (show v ≥ 0 by omega), if_neg (fun hc => hv hc.1)]
      simp only [lodgerref15_Take.j0, if_true]
      rfl
/-- Behind a call that is right, the state may be. -/
theorem rt_sub {l r : List Int} {v v' s s' n n' : Int} (h : rt l v s n = true) (hr : r.Nodup) (hin : ∀ z ∈ r, z ∈ l) (hv : ¬ v' ∈ r) (ht : tl v' s' n' = true) : rt r v' s' n' = true := by
  have key : ∀ d i, i + d = r.length → rtf r v' s' n' d i = true := by
    intro d
    induction d with
    | zero => intro i _; exact ht
    | succ d ih =>
      intro i hi
      simp only [rtf, Bool.and_eq_true]
      refine ⟨?_, ih (i + 1) (by omega)⟩
      have hm : r.getD i 0 ∈ r := getD_mem (by omega)
      have hs := rt_seg h (hin _ hm)
      simp only [okA, Bool.and_eq_true, decide_eq_true_eq, Bool.not_eq_true', decide_eq_false_iff_not]
      refine ⟨⟨hs, fun e => hv (e ▸ hm)⟩, fun hmem => ?_⟩
      obtain ⟨j, hj, e⟩ := mem_getD hmem
      rw [List.length_take] at hj
      rw [getD_take (by omega)] at e
      rw [List.Nodup, List.pairwise_iff_getElem] at hr
      have := hr j i (by omega) (by omega) (by omega)
      simp only [List.getD_eq_getElem?_getD, List.getElem?_eq_getElem (show j < r.length by omega), List.getElem?_eq_getElem (show i < r.length by omega), Option.getD_some] at e
      exact this e
  exact key r.length 0 (by omega)
theorem need_eq {l : List Int} {v s n : Int} (h : rt l v s n = true) (e : Int) : ∃ x : Int, sweep_Need.f l v s n e = some x ∧ lodgerref15_Need.f l v s n e = some x := by
  have ht := rt_tl h
  simp only [sweep_Need.f, lodgerref15_Need.f]
  by_cases hv : v = -1
  · rw [if_pos hv, if_neg (show ¬ v ≥ 0 by omega)]
    exact ⟨_, rfl, rfl⟩
  · rw [if_neg hv, if_pos (show v ≥ 0 by omega)]
    exact ⟨_, rfl, rfl⟩
theorem left_eq {l : List Int} {v s n : Int} (h : rt l v s n = true) (e : Int) : ∃ x : Int, sweep_Left.f l v s n e = some x ∧ lodgerref15_Left.f l v s n e = some x := by
  have ht := rt_tl h
  simp only [sweep_Left.f, lodgerref15_Left.f]
  by_cases hv : v = -1
  · rw [if_neg (show ¬ v ≥ 0 by omega)]
    simp only [hv, ne_eq, not_true_eq_false, if_false, if_true]
    exact ⟨_, rfl, rfl⟩
  · rw [if_pos (show v ≥ 0 by omega)]
    simp only [hv, ne_eq, not_false_eq_true, if_false, if_true]
    refine ⟨_, rfl, ?_⟩
    first | rfl | (congr 1; unfold wrap64; omega)
end Go.Proofs.Ytbcmjbjhjnojjaa.H
