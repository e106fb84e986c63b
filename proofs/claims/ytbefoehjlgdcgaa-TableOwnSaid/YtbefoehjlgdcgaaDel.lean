/-
slices.Delete of one element of a row of one's own, at whole numbers of any kind, out of the shelf's contract.
-/
import Derived.Test.YtbefoehjlgdcgaaShelf
import Derived.Test.YtbefoehjlgdcgaaTb
namespace Go.Proofs.Ytbefoehjlgdcgaa.H
open Go.RowKit Go.Proofs.YtbefoehjlgdcgaaW.PrintWords Go.Proofs.YtbefoehjlgdcgaaW.PrintLast Go.Proofs.YtbefoehjlgdcgaaW.PrintMore
theorem R_row {k : IntKind} {e g n c base : Nat} {ok : Nat → Prop} : ∀ (ys : List Int) (o : Nat) {W : World} {xs : List Int}, Kd.R (Kd.int k) e W base ok (.slice (some ⟨g, 0, none⟩) n c) xs → o + ys.length ≤ n →
    Kd.R (Kd.int k) e (W.setCells g o (ys.map (Value.int k))) base ok (.slice (some ⟨g, 0, none⟩) n c) (xs.take o ++ ys ++ xs.drop (o + ys.length))
  | [], o, W, xs, h, _ => by simpa [World.setCells] using h
  | y :: r, o, W, xs, h, hl => by
    simp only [List.length_cons] at hl
    have hn := (Kd.R_reads' h).1
    obtain ⟨ce, hcl, hM, hcc, _⟩ := Kd.R_elem h 0 (o : Int) (by omega) (by omega)
    have h2 := (Kd.R_seg h (o : Int) (by omega) (by omega) (seg := [.int k y]) (j := 0) hcl hcc (Nat.le_refl 1) (x' := y) (okp := fun k => ok k ∧ k ≠ g) (by
      have e0 : ce.length = 1 := hcl
      obtain ⟨z, rfl⟩ := List.length_eq_one_iff.1 e0
      rfl) (fun k hk => hk)).1
    have e3 : (o : Int).toNat * (Kd.int k).sz + 0 = o := by simp [show (Kd.int k).sz = 1 from rfl]
    rw [e3] at h2
    have h3 := R_row r (o + 1) h2 (by omega)
    have e4 : (xs.set (o : Int).toNat y).take (o + 1) ++ r ++ (xs.set (o : Int).toNat y).drop (o + 1 + r.length) = xs.take o ++ (y :: r) ++ xs.drop (o + (y :: r).length) := by
      rw [Int.toNat_natCast, List.drop_set_of_lt (by omega), List.take_set, List.take_succ_eq_append_getElem (by omega), List.set_append_right _ _ (by rw [List.length_take]; omega)]
      simp only [List.length_take, List.length_cons, List.append_assoc]
      rw [show o - min o xs.length = 0 by omega, List.set_cons_zero, show o + 1 + r.length = o + (r.length + 1) by omega]
      rfl
    rw [e4] at h3
    exact h3
theorem grown_row {g : Nat} {w0 : World} : ∀ (vs : List Value) (o : Nat) {W : World}, w0.grownBy W (some g) → w0.grownBy (W.setCells g o vs) (some g)
  | [], _, _, h => h
  | v :: r, o, W, h => by
    rw [World.setCells]
    exact grown_row r (o + 1) ⟨h.os, h.tape, h.output, by simpa [World.setCell] using h.size, fun i hi hne => (Below.heap_setCell W ⟨g, o, none⟩ v i (fun e => hne (by rw [e]))).trans (h.block i hi hne)⟩
theorem delete_gen {k : IntKind} {e F : Nat} (hF : ∀ (blk off cap i j : Nat) (d : Array Int) (w : World), Go.Sort.Holds (Value.int k) w blk off d → d.size ≤ cap → cap ≤ 9223372036854775807 → i ≤ j → j ≤ d.size →
      Calls Try.prog F #[.slice (some ⟨blk, off, none⟩) d.size cap, .int .i64 i, .int .i64 j] w fun e w' => e = .returned (.slice (some ⟨blk, off, none⟩) (d.size - (j - i)) cap) ∧ ∃ q, w' = Go.Sort.putRow (Value.int k) (Go.Sort.ahead w q) blk off (d.toList.take i ++ d.toList.drop j ++ List.replicate (j - i) 0).toArray)
    {w : World} {g n c base : Nat} {ok : Nat → Prop} {xs : List Int} (h : Kd.R (Kd.int k) e w base ok (.slice (some ⟨g, 0, none⟩) n c) xs) (p : Int) (h0 : 0 ≤ p) (h1 : p < n) :
    Calls Try.prog F #[.slice (some ⟨g, 0, none⟩) n c, .int .i64 p, .int .i64 (p + 1)] w fun e_ w' => e_ = .returned (.slice (some ⟨g, 0, none⟩) (n - 1) c) ∧ Kd.R (Kd.int k) e w' base ok (.slice (some ⟨g, 0, none⟩) (n - 1) c) (xs.eraseIdx p.toNat) ∧ w.grownBy w' (some g) := by
  obtain ⟨i, rfl⟩ : ∃ i : Nat, p = i := ⟨p.toNat, by omega⟩
  obtain ⟨hn, hnc, _⟩ := Kd.R_reads' h
  have hcm : c ≤ 9223372036854775807 := by
    obtain ⟨_, inner, hown, _⟩ := h
    rcases hown.2 with ⟨hv, _⟩ | ⟨g', cap', cur, hv, hb, hh, _, hcm, hcs, htake⟩
    · cases hv
    · injection hv with _ _ hc
      subst hc
      exact hcm
  have hH : Go.Sort.Holds (Value.int k) w g 0 xs.toArray := fun j hj => by
    have hj2 : j < xs.length := by simpa using hj
    obtain ⟨ce, hcl, hM, hcc, hf⟩ := Kd.R_elem h 0 (j : Int) (by omega) (by omega)
    have e1 : ce = [.int k (xs.getD j 0)] := hM
    have e2 : (j : Int).toNat * (Kd.int k).sz + 0 = 0 + j := by simp [show (Kd.int k).sz = 1 from rfl]
    have h2 := hcc 0 _ (by rw [e1]; rfl)
    have h3 := hf 0
    rw [e2] at h2 h3
    have e3 : xs.toArray[j]! = xs.getD j 0 := by simp [List.getD_eq_getElem?_getD, hj2]
    rw [e3]
    exact ⟨h2, h3⟩
  have hc := hF g 0 c i (i + 1) xs.toArray w hH (by simpa using (by omega : xs.length ≤ c)) hcm (by omega) (by simpa using (by omega : i + 1 ≤ xs.length))
  have es : xs.toArray.size = n := by simpa using hn.symm
  rw [es] at hc
  refine hc.mono ?_
  rintro e_ w' ⟨he, q, hw⟩
  have hys : (xs.toArray.toList.take i ++ xs.toArray.toList.drop (i + 1) ++ List.replicate (i + 1 - i) 0) = xs.eraseIdx i ++ [0] := by
    rw [List.eraseIdx_eq_take_drop_succ, show i + 1 - i = 1 by omega]
    rfl
  have hel : (xs.eraseIdx i).length = n - 1 := by rw [List.length_eraseIdx, if_pos (by omega)]; omega
  have hw2 := Lib.putRow_eq_setCells (Value.int k) w g 0 xs.toArray (xs.eraseIdx i ++ [0]) q hH (by rw [List.length_append, hel, List.length_singleton, es]; omega)
  rw [hys] at hw
  rw [← hw] at hw2
  have hR := R_row (xs.eraseIdx i ++ [0]) 0 (Kd.R_drewN h q) (by simp only [List.length_append, hel, List.length_singleton]; omega)
  have e5 : xs.take 0 ++ (xs.eraseIdx i ++ [0]) ++ xs.drop (0 + (xs.eraseIdx i ++ [0]).length) = xs.eraseIdx i ++ [0] := by
    rw [List.take_zero, List.nil_append, List.drop_eq_nil_of_le (by simp only [List.length_append, hel, List.length_singleton]; omega), List.append_nil]
  rw [e5, ← hw2] at hR
  have hT := Kd.R_take (m := n - 1) hR (by simp only [List.length_append, hel]; omega)
  rw [List.take_append_of_le_length (by omega), List.take_of_length_le (by omega)] at hT
  refine ⟨by rw [he]; congr 3; omega, hT, ?_⟩
  rw [hw2]
  exact grown_row _ _ (grown_of_below (pw_below_drewN (Below.refl _ _) q) _)
theorem info3_ : ∃ i0, Try.prog.info? 3 = some i0 ∧ i0.size = 1 := by
  obtain ⟨i0, hi, _, hsz, _⟩ := info_parts info3
  exact ⟨i0, hi, hsz⟩
theorem info23_ : ∃ i0, Try.prog.info? 23 = some i0 ∧ i0.size = 1 := by
  obtain ⟨i0, hi, _, hsz, _⟩ := info_parts info23
  exact ⟨i0, hi, hsz⟩
theorem delete_i {w : World} {g n c base : Nat} {ok : Nat → Prop} {xs : List Int} (h : Kd.R (Kd.int .i64) 3 w base ok (.slice (some ⟨g, 0, none⟩) n c) xs) (p : Int) (h0 : 0 ≤ p) (h1 : p < n) :
    Calls Try.prog 44 #[.slice (some ⟨g, 0, none⟩) n c, .int .i64 p, .int .i64 (p + 1)] w fun e_ w' => e_ = .returned (.slice (some ⟨g, 0, none⟩) (n - 1) c) ∧ Kd.R (Kd.int .i64) 3 w' base ok (.slice (some ⟨g, 0, none⟩) (n - 1) c) (xs.eraseIdx p.toNat) ∧ w.grownBy w' (some g) := by
  obtain ⟨i0, hi, hs⟩ := info3_
  exact delete_gen (fun blk off cap i j d w hH => Try.slices_Delete_f44 (Value.int .i64) (fun _ => rfl) 0 (fun w => by kernel_rfl) i0 hi hs blk off cap i j d w hH) h p h0 h1
theorem delete_u {w : World} {g n c base : Nat} {ok : Nat → Prop} {xs : List Int} (h : Kd.R (Kd.int .u64) 23 w base ok (.slice (some ⟨g, 0, none⟩) n c) xs) (p : Int) (h0 : 0 ≤ p) (h1 : p < n) :
    Calls Try.prog 45 #[.slice (some ⟨g, 0, none⟩) n c, .int .i64 p, .int .i64 (p + 1)] w fun e_ w' => e_ = .returned (.slice (some ⟨g, 0, none⟩) (n - 1) c) ∧ Kd.R (Kd.int .u64) 23 w' base ok (.slice (some ⟨g, 0, none⟩) (n - 1) c) (xs.eraseIdx p.toNat) ∧ w.grownBy w' (some g) := by
  obtain ⟨i0, hi, hs⟩ := info23_
  exact delete_gen (fun blk off cap i j d w hH => Try.slices_Delete_f45 (Value.int .u64) (fun _ => rfl) 0 (fun w => by kernel_rfl) i0 hi hs blk off cap i j d w hH) h p h0 h1
end Go.Proofs.Ytbefoehjlgdcgaa.H
