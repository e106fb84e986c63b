/-
What 'better' comes to, in plain numbers: a gains gn for cs; better is a strict weak order. No memory here.
-/
import Derived.Test.YtbcjdendpdnknaaHx1
namespace Go.Proofs.Ytbcjdendpdnknaa.H
open Go.RowKit Go.Proofs.YtbcjdendpdnknaaW.PrintWords Go.Proofs.YtbcjdendpdnknaaW.PrintLast Go.Proofs.YtbcjdendpdnknaaW.PrintMore

def nn (a : S25) : Int := mn (mx a.f1 0) 30
def ll (a : S25) : Int := mn (mx a.f2 0) (nn a)
def tt (a : S25) : Int := mn (mx a.f4 0) 1099511627776
def gn (a : S25) : Int := (nn a - ll a) * tt a
def cs (a : S25) : Int := mx (nn a + ll a) 1
theorem nn_bd (a : S25) : 0 ≤ nn a ∧ nn a ≤ 30 := by unfold nn mn mx; split <;> split <;> omega
theorem ll_bd (a : S25) : 0 ≤ ll a ∧ ll a ≤ nn a := by have := nn_bd a; unfold ll mn mx; split <;> split <;> omega
theorem tt_bd (a : S25) : 0 ≤ tt a ∧ tt a ≤ 1099511627776 := by unfold tt mn mx; split <;> split <;> omega
theorem cs_bd (a : S25) : 1 ≤ cs a ∧ cs a ≤ 60 := by have := nn_bd a; have := ll_bd a; unfold cs mx; split <;> omega
theorem gn_bd (a : S25) : 0 ≤ gn a ∧ gn a ≤ 30 * 1099511627776 := by
  have h1 := nn_bd a; have h2 := ll_bd a; have h3 := tt_bd a
  unfold gn
  have h4 : 0 ≤ nn a - ll a := by omega
  refine ⟨Int.mul_nonneg h4 h3.1, ?_⟩
  exact Int.mul_le_mul (by omega) h3.2 h3.1 (by omega)
theorem prod_bd (a b : S25) : 0 ≤ gn a * cs b ∧ gn a * cs b ≤ 60 * (30 * 1099511627776) := by
  have h1 := gn_bd a; have h2 := cs_bd b
  refine ⟨Int.mul_nonneg h1.1 (by omega), ?_⟩
  rw [Int.mul_comm 60]
  exact Int.mul_le_mul h1.2 h2.2 (by omega) (by omega)
theorem worth_is (a : S25) : victim_Cand_worth.f a.f0 a.f1 a.f2 a.f3 a.f4 = some (gn a, cs a) := by
  have h1 := nn_bd a; have h2 := ll_bd a; have h3 := tt_bd a; have h4 := gn_bd a; have h5 := cs_bd a
  have e1 : wrap64 (nn a - ll a) = nn a - ll a := by unfold wrap64; omega
  have e2 : wrap64 (nn a + ll a) = nn a + ll a := by unfold wrap64; omega
  have e3 : IntKind.u64.wrap (nn a - ll a) = nn a - ll a := IntWalk.u64_in _ (by omega)
  have e4 : IntKind.u64.wrap (gn a) = gn a := IntWalk.u64_in _ (by omega)
  have e5 : IntKind.u64.wrap (cs a) = cs a := IntWalk.u64_in _ (by omega)
  unfold victim_Cand_worth.f victim_within_int.f victim_within_uint64.f
  simp only [Option.bind_some]
  show some (IntKind.u64.wrap (IntKind.u64.wrap (wrap64 (nn a - ll a)) * tt a), IntKind.u64.wrap (mx (wrap64 (nn a + ll a)) 1)) = _
  rw [e1, e2, e3]
  show some (IntKind.u64.wrap (gn a), IntKind.u64.wrap (cs a)) = _
  rw [e4, e5]
/-- Better, in plain numbers. -/
theorem bet_is (a b : S25) : bet a b = decide (gn b * cs a < gn a * cs b) := by
  have h1 := prod_bd a b; have h2 := prod_bd b a
  unfold bet victim_Better.f
  rw [worth_is a, worth_is b]
  simp only [Option.bind_some, Option.getD_some]
  rw [IntWalk.u64_in (gn a * cs b) (by omega), IntWalk.u64_in (gn b * cs a) (by omega)]
theorem bet_true {a b : S25} : bet a b = true ↔ gn b * cs a < gn a * cs b := by rw [bet_is]; simp
theorem bet_false {a b : S25} : bet a b = false ↔ gn a * cs b ≤ gn b * cs a := by rw [bet_is]; simp
theorem bet_irr (a : S25) : bet a a = false := bet_false.2 (Int.le_refl _)
theorem bet_asym {a b : S25} (h : bet a b = true) : bet b a = false := bet_false.2 (Int.le_of_lt (bet_true.1 h))
/-- What is no better than what is no better is no better. -/
theorem nb_trans {a b c : S25} (h1 : bet a b = false) (h2 : bet b c = false) : bet a c = false := by
  rw [bet_false] at *
  have hb := cs_bd b; have hc := cs_bd c; have ha := cs_bd a
  have k1 : gn a * cs b * cs c ≤ gn b * cs a * cs c := Int.mul_le_mul_of_nonneg_right h1 (by omega)
  have k2 : gn b * cs c * cs a ≤ gn c * cs b * cs a := Int.mul_le_mul_of_nonneg_right h2 (by omega)
  have e1 : gn a * cs b * cs c = gn a * cs c * cs b := Int.mul_right_comm _ _ _
  have e2 : gn b * cs a * cs c = gn b * cs c * cs a := Int.mul_right_comm _ _ _
  have e3 : gn c * cs b * cs a = gn c * cs a * cs b := Int.mul_right_comm _ _ _
  refine Int.le_of_mul_le_mul_right (a := cs b) ?_ (by omega)
  rw [← e1, ← e3]
  rw [e2] at k1
  exact Int.le_trans k1 k2
theorem nb_total (a b : S25) : bet a b = false ∨ bet b a = false := by
  cases h : bet a b
  · exact .inl rfl
  · exact .inr (bet_asym h)
/-- Better, by one that is no worse. -/
theorem bet_nb {a b c : S25} (h1 : bet a b = true) (h2 : bet c b = false) : bet a c = true := by
  cases h : bet a c
  · have := nb_trans h h2
    rw [h1] at this
    cases this
  · rfl
theorem nb_bet {a b c : S25} (h1 : bet b a = false) (h2 : bet b c = true) : bet a c = true := by
  cases h : bet a c
  · have := nb_trans h1 h
    rw [h2] at this
    cases this
  · rfl
/-- One that is older, of the same records, is no worse. -/
theorem bet_older (a b : S25) (h1 : b.f1 = a.f1) (h2 : b.f2 = a.f2) (h4 : a.f4 ≤ b.f4) : bet a b = false := by
  rw [bet_false]
  have en : nn b = nn a := by unfold nn; rw [h1]
  have el : ll b = ll a := by unfold ll; rw [h2, en]
  have ec : cs b = cs a := by unfold cs; rw [en, el]
  have et : tt a ≤ tt b := by unfold tt mn mx; (repeat' split) <;> omega
  rw [ec]
  refine Int.mul_le_mul_of_nonneg_right ?_ (by have := cs_bd a; omega)
  unfold gn
  rw [en, el]
  exact Int.mul_le_mul_of_nonneg_left et (by have := ll_bd a; omega)
/-- Nor is one of which less lives. -/
theorem bet_fewer (a b : S25) (h1 : b.f1 = a.f1) (h2 : b.f2 ≤ a.f2) (h4 : b.f4 = a.f4) : bet a b = false := by
  rw [bet_false]
  have en : nn b = nn a := by unfold nn; rw [h1]
  have el : ll b ≤ ll a := by have := nn_bd a; unfold ll; rw [en]; unfold mn mx; (repeat' split) <;> omega
  have et : tt b = tt a := by unfold tt; rw [h4]
  have ec : cs b ≤ cs a := by unfold cs; rw [en]; unfold mx; (repeat' split) <;> omega
  have hg : gn a ≤ gn b := by
    unfold gn
    rw [en, et]
    exact Int.mul_le_mul_of_nonneg_right (by omega) (tt_bd a).1
  exact Int.mul_le_mul hg ec (by have := cs_bd b; omega) (gn_bd b).1
end Go.Proofs.Ytbcjdendpdnknaa.H
