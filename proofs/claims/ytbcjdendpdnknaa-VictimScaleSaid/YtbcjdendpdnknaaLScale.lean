/-
The plain law of VictimScale, and its walk.
-/
import Derived.Test.YtbcjdendpdnknaaHx
import Derived.Test.YtbcjdendpdnknaaBet
import Derived.Test.YtbcjdendpdnknaaArgs
import Derived.Test.YtbcjdendpdnknaaPl
import Derived.Test.YtbcjdendpdnknaaCut
import Derived.Test.YtbcjdendpdnknaaSc
namespace Go.Proofs.Ytbcjdendpdnknaa.H
open Go.RowKit Go.Proofs.YtbcjdendpdnknaaW.PrintWords Go.Proofs.YtbcjdendpdnknaaW.PrintLast Go.Proofs.YtbcjdendpdnknaaW.PrintMore
attribute [local go_sem] max2_int min2_int max_two min_two max_three min_three max_four min_four
set_option linter.unusedVariables false
set_option linter.unusedSimpArgs false
/-- A candidate whose age is cut below 1048576. -/
def lo (a : S25) : S25 := ⟨a.f0, a.f1, a.f2, a.f3, Int.tmod a.f4 1048576⟩
def sc (s : Int) (a : S25) : S25 := ⟨a.f0, a.f1, a.f2, a.f3, a.f4 * s⟩
theorem nn_sc (s : Int) (a : S25) : nn (sc s a) = nn a := rfl
theorem ll_sc (s : Int) (a : S25) : ll (sc s a) = ll a := rfl
theorem cs_sc (s : Int) (a : S25) : cs (sc s a) = cs a := rfl
theorem sc_lt {s a : Int} (hs : 1 ≤ s ∧ s ≤ 1000) (ha : 0 ≤ a ∧ a < 1048576) : 0 ≤ a * s ∧ a * s ≤ 1048576 * 1000 := by
  refine ⟨Int.mul_nonneg ha.1 (by omega), Int.le_trans (Int.mul_le_mul_of_nonneg_left hs.2 ha.1) (Int.mul_le_mul_of_nonneg_right (by omega) (by omega))⟩
theorem tt_sc {s : Int} {a : S25} (hs : 1 ≤ s ∧ s ≤ 1000) (ha : 0 ≤ a.f4 ∧ a.f4 < 1048576) : tt (sc s a) = s * tt a := by
  have h := sc_lt hs ha
  have e1 : tt (sc s a) = a.f4 * s := by unfold tt sc mn mx; dsimp only; split <;> split <;> omega
  have e2 : tt a = a.f4 := by unfold tt mn mx; split <;> split <;> omega
  rw [e1, e2, Int.mul_comm]
theorem gn_sc {s : Int} {a : S25} (hs : 1 ≤ s ∧ s ≤ 1000) (ha : 0 ≤ a.f4 ∧ a.f4 < 1048576) : gn (sc s a) = s * gn a := by
  unfold gn
  rw [tt_sc hs ha, nn_sc, ll_sc, ← Int.mul_assoc, Int.mul_comm _ s, Int.mul_assoc]
theorem bet_sc {s : Int} {a b : S25} (hs : 1 ≤ s ∧ s ≤ 1000) (ha : 0 ≤ a.f4 ∧ a.f4 < 1048576) (hb : 0 ≤ b.f4 ∧ b.f4 < 1048576) : bet (sc s a) (sc s b) = bet a b := by
  rw [bet_is, bet_is, gn_sc hs ha, gn_sc hs hb, cs_sc, cs_sc, Int.mul_assoc, Int.mul_assoc]
  exact decide_eq_decide.2 ⟨fun h => Int.lt_of_mul_lt_mul_left h (by omega), fun h => Int.mul_lt_mul_of_pos_left h (by omega)⟩
def Low (l : List S25) : Prop := ∀ i : Int, 0 ≤ (rd_T25 l i).f4 ∧ (rd_T25 l i).f4 < 1048576
theorem rd_sc (s : Int) (l : List S25) (i : Int) : rd_T25 (l.map (sc s)) i = sc s (rd_T25 l i) := by
  simp only [rd_T25, List.getD_eq_getElem?_getD, List.getElem?_map]
  cases l[i.toNat]? with
  | none => simp [sc, z25]
  | some x => rfl
theorem pk_sc {s : Int} {l : List S25} (hs : 1 ≤ s ∧ s ≤ 1000) (hl : Low l) (so : Int → Bool) : ∀ n : Nat, pk (l.map (sc s)) so n = pk l so n
  | 0 => rfl
  | n + 1 => by rw [pk_succ, pk_succ, pk_sc hs hl so n, rd_sc, rd_sc, bet_sc hs (hl _) (hl _)]
theorem ord_sc {s : Int} {l : List S25} (hs : 1 ≤ s ∧ s ≤ 1000) (hl : Low l) : ∀ n : Nat, ord (l.map (sc s)) n = ord l n
  | 0 => rfl
  | n + 1 => by simp only [ord, ord_sc hs hl n, List.length_map, pk_sc hs hl]
theorem lo_bd (a : S25) (h : 0 ≤ a.f4) : 0 ≤ (lo a).f4 ∧ (lo a).f4 < 1048576 := ⟨Int.tmod_nonneg _ h, Int.tmod_lt_of_pos _ (by omega)⟩
theorem low_lo (l : List S25) (h : ∀ a ∈ l, 0 ≤ a.f4) : Low (l.map lo) := fun i => by
  simp only [rd_T25, List.getD_eq_getElem?_getD, List.getElem?_map]
  cases e : l[i.toNat]? with
  | none => simp [z25]
  | some x => exact lo_bd x (h x (List.mem_of_getElem? e))
theorem mix_set (l : List S25) (i : Nat) (h : i < l.length) : ((l.take i).map lo ++ l.drop i).set i (lo (rd_T25 l i)) = (l.take (i + 1)).map lo ++ l.drop (i + 1) := by
  have hl : ((l.take i).map lo).length = i := by simp; omega
  rw [List.set_append_right _ _ (by omega), hl, Nat.sub_self, List.drop_eq_getElem_cons h, List.set_cons_zero, List.take_succ_eq_append_getElem h, List.map_append]
  simp [rd_T25, List.getD_eq_getElem?_getD, List.getElem?_eq_getElem h]
theorem mix_rd (l : List S25) (i : Nat) (h : i < l.length) : rd_T25 ((l.take i).map lo ++ l.drop i) (i : Int) = rd_T25 l i := by
  simp only [rd_T25, Int.toNat_natCast, List.getD_eq_getElem?_getD]
  rw [List.getElem?_append_right (by simp; omega), List.getElem?_drop]
  congr 2
  simp; omega
theorem mix_rd' (l : List S25) (i : Nat) (h : i < l.length) : rd_T25 ((l.take (i + 1)).map lo ++ l.drop (i + 1)) (i : Int) = lo (rd_T25 l i) := by
  simp only [rd_T25, Int.toNat_natCast, List.getD_eq_getElem?_getD]
  rw [List.getElem?_append_left (by simp; omega)]
  simp [List.getElem?_take, List.getElem?_eq_getElem h]
theorem scale_end (l : List S25) (room tm s : Int) (hs : 1 ≤ s ∧ s ≤ 1000) (hl : Low l) (hn : l.length ≤ 16) (k : Nat) (hk : 17 < k) : lodgerlaw14_VictimScale.l0 (k + 1) l room tm (l.map (sc s)) (l.length : Int) = some true := by
  simp only [lodgerlaw14_VictimScale.l0]
  rw [if_neg (by omega)]
  have e1 : victim_Pick.f (l.map (sc s)) room = victim_Pick.f l room := by
    simp only [victim_Pick.f, List.length_map, rd_sc]
    rw [pk_sc hs hl]
    rfl
  have e2 : victim_Order.f (l.map (sc s)) = some (ord l l.length) := by
    simp only [victim_Order.f, List.length_map]
    rw [if_pos (by omega), ord_sc hs hl]
  have e3 : victim_Order.f l = some (ord l l.length) := by
    simp only [victim_Order.f]
    rw [if_pos (by omega)]
  have e4 : lodgerref07_Ints.f k (ord l l.length) (ord l l.length) = some true := by
    simp only [lodgerref07_Ints.f]
    rw [if_pos trivial]
    exact ints_tells _ (by rw [ord_length]; omega) (ord l l.length).length k 0 (by omega) (by omega) (by rw [ord_length]; omega)
  rw [e1, e2, e3]
  simp only [victim_Pick.f, Option.bind_some, if_true, e4]
  rfl
theorem scale_tells (l : List S25) (room tm s : Int) (hw : IntKind.u64.wrap (1 + Int.tmod (IntKind.u64.wrap tm) 1000) = s) (hs : 1 ≤ s ∧ s ≤ 1000) (hG : ∀ a ∈ l, 0 ≤ a.f4) (hn : l.length ≤ 16) : ∀ (d k i : Nat), i ≤ l.length → l.length - i = d → d + 20 < k →
    lodgerlaw14_VictimScale.l0 k ((l.take i).map lo ++ l.drop i) room tm (((l.take i).map lo).map (sc s)) (i : Int) = some true := by
  intro d
  induction d with
  | zero =>
    intro k i hi hd hk
    obtain ⟨k, rfl⟩ : ∃ m, k = m + 1 := ⟨k - 1, by omega⟩
    obtain rfl : i = l.length := by omega
    have := scale_end (l.map lo) room tm s hs (low_lo l hG) (by rw [List.length_map]; exact hn) k (by omega)
    rw [List.length_map] at this
    rw [List.take_length, List.drop_length, List.append_nil]
    exact this
  | succ d ih =>
    intro k i hi hd hk
    obtain ⟨k, rfl⟩ : ∃ m, k = m + 1 := ⟨k - 1, by omega⟩
    have hlt : i < l.length := by omega
    have hw64 : wrap64 ((i : Int) + 1) = ((i + 1 : Nat) : Int) := by unfold wrap64; omega
    have hlen : ((l.take i).map lo ++ l.drop i).length = l.length := by simp; omega
    have hx := mix_set l i hlt
    have hbd := lo_bd (rd_T25 l i) (hG _ (rd_mem l i hlt))
    have hsc := sc_lt hs hbd
    have hww : IntKind.u64.wrap ((lo (rd_T25 l i)).f4 * s) = (lo (rd_T25 l i)).f4 * s := IntWalk.u64_in _ (by omega)
    have h7 : ((l.take i).map lo).map (sc s) ++ [sc s (lo (rd_T25 l i))] = ((l.take (i + 1)).map lo).map (sc s) := by
      rw [List.take_succ_eq_append_getElem hlt, List.map_append, List.map_append]
      have e0 : rd_T25 l (i : Int) = l[i] := by simp [rd_T25, List.getD_eq_getElem?_getD, List.getElem?_eq_getElem hlt]
      rw [e0]
      rfl
    simp only [lodgerlaw14_VictimScale.l0, hlen, mix_rd l i hlt]
    rw [if_pos (by omega), if_pos (by omega)]
    simp only [Option.bind_some, Int.toNat_natCast]
    rw [show (⟨(rd_T25 l i).f0, (rd_T25 l i).f1, (rd_T25 l i).f2, (rd_T25 l i).f3, Int.tmod (rd_T25 l i).f4 1048576⟩ : S25) = lo (rd_T25 l i) from rfl, hx]
    simp only [mix_rd' l i hlt, hw, hww, hw64]
    rw [if_pos (by simp; omega)]
    rw [show (⟨(lo (rd_T25 l i)).f0, (lo (rd_T25 l i)).f1, (lo (rd_T25 l i)).f2, (lo (rd_T25 l i)).f3, (lo (rd_T25 l i)).f4 * s⟩ : S25) = sc s (lo (rd_T25 l i)) from rfl, h7]
    exact ih k (i + 1) (by omega) (by omega) (by omega)
theorem scale_law (l : List S25) (room tm : Int) (ht : 0 ≤ tm ∧ tm ≤ 65535) (hG : ∀ a ∈ l, 0 ≤ a.f4) : lodgerlaw14_VictimScale.f 60 l room tm = some true := by
  have h1 : 0 ≤ mn (l.length : Int) 16 ∧ mn (l.length : Int) 16 ≤ l.length ∧ mn (l.length : Int) 16 ≤ 16 := by unfold mn; split <;> omega
  have ew : IntKind.u64.wrap tm = tm := IntWalk.u64_in _ (by omega)
  have em : 0 ≤ Int.tmod tm 1000 ∧ Int.tmod tm 1000 < 1000 := ⟨Int.tmod_nonneg _ ht.1, Int.tmod_lt_of_pos _ (by omega)⟩
  have es : IntKind.u64.wrap (1 + Int.tmod (IntKind.u64.wrap tm) 1000) = 1 + Int.tmod tm 1000 := by rw [ew]; exact IntWalk.u64_in _ (by omega)
  simp only [lodgerlaw14_VictimScale.f, Option.bind_some]
  rw [if_pos h1.1, if_pos h1.2.1]
  have hl : (l.take (mn (l.length : Int) 16).toNat).length ≤ 16 := by rw [List.length_take]; omega
  rw [if_pos (by simp only [List.length_nil]; omega), List.nil_append]
  exact scale_tells (l.take (mn (l.length : Int) 16).toNat) room tm _ es (by omega) (fun a ha => hG a (List.mem_of_mem_take ha)) hl _ 60 0 (by omega) rfl (by omega)
theorem VictimScale_walk {w : World} (A0 : Option Addr) (c0 : Nat) (l0 : List S25) (hC : Kd.C k25 w A0 l0.length l0) (hc : l0.length ≤ c0) (hG : ∀ p ∈ l0, Op.G25 p) (room : Int) (_ : (Lit.int .i64 room).wf = true) (tm : Int) (ht : (Lit.int .u16 tm).wf = true) :
    Calls Try.prog 8 #[.slice A0 l0.length c0, .int .i64 room, .int .u16 tm] w fun e w' => e = .returned (.bool true) ∧ Below w.heap.size w w' :=
  lodgerlaw14_VictimScale.calls 60 A0 c0 l0 room tm true w hC hc (scale_law l0 room tm (by have := bounds_u16 ht; exact this) (age_of hG))
end Go.Proofs.Ytbcjdendpdnknaa.H
