/-
slices.Delete of one element of a row of one's own, out of the shelf's contract.
-/
import Derived.Test.YtbcmjbjhjnojjaaShelf
import Derived.Test.YtbcmjbjhjnojjaaWWords
import Derived.Test.YtbcmjbjhjnojjaaWMore
namespace Go.Proofs.Ytbcmjbjhjnojjaa.Del
open Go.RowKit Go.Proofs.YtbcmjbjhjnojjaaW.PrintWords Go.Proofs.YtbcmjbjhjnojjaaW.PrintLast Go.Proofs.YtbcmjbjhjnojjaaW.PrintMore
theorem R_row {g n c base : Nat} {ok : Nat → Prop} : ∀ (ys : List Int) (o : Nat) {W : World} {xs : List Int}, Kd.R (Kd.int .i64) 3 W base ok (.slice (some ⟨g, 0, none⟩) n c) xs → o + ys.length ≤ n →
    Kd.R (Kd.int .i64) 3 (W.setCells g o (ys.map (Value.int .i64))) base ok (.slice (some ⟨g, 0, none⟩) n c) (xs.take o ++ ys ++ xs.drop (o + ys.length))
  | [], o, W, xs, h, _ => by simpa [World.setCells] using h
  | y :: r, o, W, xs, h, hl => by
    simp only [List.length_cons] at hl
    have hn := (Kd.R_reads' h).1
    obtain ⟨ce, hcl, hM, hcc, _⟩ := Kd.R_elem h 0 (o : Int) (by omega) (by omega)
    have h2 := (Kd.R_seg h (o : Int) (by omega) (by omega) (seg := [.int .i64 y]) (j := 0) hcl hcc (Nat.le_refl 1) (x' := y) (okp := fun k => ok k ∧ k ≠ g) (by
      have e : ce.length = 1 := hcl
      obtain ⟨z, rfl⟩ := List.length_eq_one_iff.1 e
      rfl) (fun k hk => hk)).1
    have e3 : (o : Int).toNat * (Kd.int .i64).sz + 0 = o := by simp [show (Kd.int .i64).sz = 1 from rfl]
    rw [e3] at h2
    have h3 := R_row r (o + 1) h2 (by omega)
    have e4 : (xs.set (o : Int).toNat y).take (o + 1) ++ r ++ (xs.set (o : Int).toNat y).drop (o + 1 + r.length) = xs.take o ++ (y :: r) ++ xs.drop (o + (y :: r).length) := by
      rw [Int.toNat_natCast, List.drop_set_of_lt (by omega), List.take_set, List.take_succ_eq_append_getElem (by omega), List.set_append_right _ _ (by rw [List.length_take]; omega)]
      simp only [List.length_take, List.length_cons, List.append_assoc]
      rw [show o - min o xs.length = 0 by omega, List.set_cons_zero, show o + 1 + r.length = o + (r.length + 1) by omega]
      rfl
    rw [e4] at h3
    exact h3
theorem below_row {g : Nat} {w0 : World} : ∀ (vs : List Value) (o : Nat) {W : World}, Below w0.heap.size w0 W → w0.heap.size ≤ g → Below w0.heap.size w0 (W.setCells g o vs)
  | [], _, _, h, _ => h
  | v :: r, o, W, h, hg => by
    rw [World.setCells]
    exact below_row r (o + 1) (below_set h hg) hg
theorem delete_one {w : World} {g n c base : Nat} {ok : Nat → Prop} {xs : List Int} (h : Kd.R (Kd.int .i64) 3 w base ok (.slice (some ⟨g, 0, none⟩) n c) xs) (p : Int) (h0 : 0 ≤ p) (h1 : p < n) :
    Calls Try.prog 37 #[.slice (some ⟨g, 0, none⟩) n c, .int .i64 p, .int .i64 (p + 1)] w fun e w' => e = .returned (.slice (some ⟨g, 0, none⟩) (n - 1) c) ∧ Kd.R (Kd.int .i64) 3 w' base ok (.slice (some ⟨g, 0, none⟩) (n - 1) c) (xs.eraseIdx p.toNat) ∧
      (∀ {w0 : World}, Below w0.heap.size w0 w → w0.heap.size ≤ g → Below w0.heap.size w0 w') ∧ ∀ k, k ≠ g → w'.heap[k]? = w.heap[k]? := by
  obtain ⟨i, rfl⟩ : ∃ i : Nat, p = i := ⟨p.toNat, by omega⟩
  obtain ⟨hn, hnc, _⟩ := Kd.R_reads' h
  have hcm : c ≤ 9223372036854775807 := by
    obtain ⟨_, inner, hown, _⟩ := h
    rcases hown.2 with ⟨hv, _⟩ | ⟨g', cap', cur, hv, hb, hh, _, hcm, hcs, htake⟩
    · cases hv
    · injection hv with _ _ hc
      subst hc
      exact hcm
  have hcell : ∀ j, j < xs.length → w.cell? ⟨g, 0 + j, none⟩ = some (.int .i64 (xs.getD j 0)) ∧ w.frozen? ⟨g, 0 + j, none⟩ = false := fun j hj => by
    obtain ⟨ce, hcl, hM, hcc, hf⟩ := Kd.R_elem h 0 (j : Int) (by omega) (by omega)
    have e1 : ce = [.int .i64 (xs.getD j 0)] := hM
    have e2 : (j : Int).toNat * (Kd.int .i64).sz + 0 = 0 + j := by simp [show (Kd.int .i64).sz = 1 from rfl]
    have h2 := hcc 0 _ (by rw [e1]; rfl)
    have h3 := hf 0
    rw [e2] at h2 h3
    exact ⟨h2, h3⟩
  refine (Try.slices_Delete_int_cells g 0 n c i (i + 1) xs w (by omega) hnc hcm (by omega) (by omega) (fun j hj => (hcell j hj).1) (fun j hj => (hcell j (by omega)).2)).mono ?_
  rintro e w' ⟨he, q, hw⟩
  have hys : (xs.take n).take i ++ (xs.take n).drop (i + 1) ++ List.replicate (i + 1 - i) 0 = xs.eraseIdx i ++ [0] := by
    rw [hn, List.take_length, List.eraseIdx_eq_take_drop_succ, show i + 1 - i = 1 by omega]
    rfl
  rw [hys] at hw
  have hel : (xs.eraseIdx i).length = n - 1 := by rw [List.length_eraseIdx, if_pos (by omega)]; omega
  have hR := R_row (xs.eraseIdx i ++ [0]) 0 (Kd.R_drewN h q) (by simp only [List.length_append, hel, List.length_singleton]; omega)
  have e5 : xs.take 0 ++ (xs.eraseIdx i ++ [0]) ++ xs.drop (0 + (xs.eraseIdx i ++ [0]).length) = xs.eraseIdx i ++ [0] := by
    rw [List.take_zero, List.nil_append, List.drop_eq_nil_of_le (by simp only [List.length_append, hel, List.length_singleton]; omega), List.append_nil]
  rw [e5, ← hw] at hR
  have hT := Kd.R_take (m := n - 1) hR (by simp only [List.length_append, hel]; omega)
  rw [List.take_append_of_le_length (by omega), List.take_of_length_le (by omega)] at hT
  refine ⟨by rw [he]; congr 3; omega, hT, fun hb hg => ?_, fun k hk => ?_⟩
  · rw [hw]
    exact below_row _ _ (pw_below_drewN hb _) hg
  · rw [hw, setCells_far _ _ k hk]
    rfl
end Go.Proofs.Ytbcmjbjhjnojjaa.Del
