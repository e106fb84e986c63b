/-
The cut that the laws over many candidates begin with.
-/
import Derived.Test.YtbcjdendpdnknaaHx
import Derived.Test.YtbcjdendpdnknaaArgs
import Derived.OpenShut
namespace Go.Proofs.Ytbcjdendpdnknaa.H
open Go.RowKit Go.Proofs.YtbcjdendpdnknaaW.PrintWords Go.Proofs.YtbcjdendpdnknaaW.PrintLast Go.Proofs.YtbcjdendpdnknaaW.PrintMore
attribute [local go_sem] max2_int min2_int max_two min_two max_three min_three max_four min_four
set_option linter.unusedVariables false
set_option linter.unusedSimpArgs false
theorem info25 : (Try.prog.info? 25).map (fun i => (i.zero, i.size, i.bytes)) = some (some (.agg #[.int .i64 0, .int .i64 0, .int .i64 0, .int .i64 0, .int .u64 0]), 5, 40) := by kernel_rfl
theorem age_of {l : List S25} (h : ∀ a ∈ l, Op.G25 a) : ∀ a ∈ l, 0 ≤ a.f4 := fun a ha => (bounds_u64 (h a ha).2.2.2.2).1
theorem cut16 {w : World} {A : Option Addr} {c : Nat} {l : List S25} (hC : Kd.C k25 w A l.length l) (hc : l.length ≤ c) (hG : ∀ a ∈ l, Op.G25 a) : ∃ (m : Int) (l' : List S25), mn (l.length : Int) 16 = m ∧ l'.length ≤ 16 ∧
    (∀ W, (Instr.slice 22 (.slice A l.length c) none (some (.int .i64 m)) none).run Try.prog W = .ok (.slice A l'.length c) W) ∧ Kd.C k25 w A l'.length l' ∧ l'.length ≤ c ∧ (∀ a ∈ l', Op.G25 a) := by
  obtain ⟨i0, hi, _⟩ := info_parts info25
  have h1 : 0 ≤ mn (l.length : Int) 16 ∧ mn (l.length : Int) 16 ≤ l.length ∧ mn (l.length : Int) 16 ≤ 16 := by unfold mn; split <;> omega
  have hl : (l.take (mn (l.length : Int) 16).toNat).length = (mn (l.length : Int) 16).toNat := by rw [List.length_take]; omega
  refine ⟨_, l.take (mn (l.length : Int) 16).toNat, rfl, by rw [hl]; omega, fun W => ?_, Kd.C_take hC (by omega), by rw [hl]; omega, fun a ha => hG a (List.mem_of_mem_take ha)⟩
  rw [hl]
  exact cut_to 22 25 .i64 Try.underlying22 hi A l.length c _ h1.1 h1.2.1 hc W
end Go.Proofs.Ytbcjdendpdnknaa.H
