/-
Plain: tables of segments that follow one another, without records.
-/
import Derived.Test.YtbefoehjlgdcgaaFu
namespace Go.Proofs.Ytbefoehjlgdcgaa.H
open Go.RowKit Go.Proofs.YtbefoehjlgdcgaaW.PrintWords Go.Proofs.YtbefoehjlgdcgaaW.PrintLast Go.Proofs.YtbefoehjlgdcgaaW.PrintMore
def up (a k : Nat) : List Int := (List.range' a k).map (fun j : Nat => (j : Int))
def zs (k : Nat) : List Int := List.replicate k 0
theorem up_len (a k : Nat) : (up a k).length = k := by simp [up]
theorem zs_len (k : Nat) : (zs k).length = k := by simp [zs]
theorem zs_get (k i : Nat) : (zs k).getD i 0 = 0 := by
  unfold zs
  rw [List.getD_eq_getElem?_getD, List.getElem?_replicate]
  split <;> rfl
theorem up_get {a k i : Nat} (h : i < k) : (up a k).getD i 0 = ((a + i : Nat) : Int) := by
  unfold up
  rw [List.getD_eq_getElem?_getD, List.getElem?_map, List.getElem?_range' h]
  simp
theorem up_snoc (a k : Nat) : up a k ++ [((a + k : Nat) : Int)] = up a (k + 1) := by
  unfold up
  rw [List.range'_concat, List.map_append]
  simp
theorem zs_snoc (k : Nat) : zs k ++ [0] = zs (k + 1) := (List.replicate_succ').symm
theorem up_tail (a k : Nat) : (up a (k + 1)).eraseIdx 0 = up (a + 1) k := rfl
theorem zs_tail (k : Nat) : (zs (k + 1)).eraseIdx 0 = zs k := rfl
theorem pl_up (a k : Nat) : pl (up a (k + 1)) (a : Int) = 0 := by
  have e : up a (k + 1) = (a : Int) :: up (a + 1) k := rfl
  unfold pl
  rw [e, if_pos (List.mem_cons_self ..), List.idxOf_cons_self]
  rfl
theorem frk_up : ∀ n, n < 17 → ∀ a, a < 17 → a ≤ n → frk n (up 0 a) = up a (n - a) := by decide +kernel
theorem frk_dn : ∀ n, n < 17 → ∀ a, a < 17 → a ≤ n → frk n (up a (n - a)) = up 0 a := by decide +kernel
theorem frk_one {n i : Nat} (hn : n < 17) (hi : i < n) : frk n (up 0 i) = (i : Int) :: up (i + 1) (n - i - 1) := by
  rw [frk_up n hn i (by omega) (by omega)]
  obtain ⟨k, hk⟩ : ∃ k, n - i = k + 1 := ⟨n - i - 1, by omega⟩
  rw [hk]
  rfl
theorem frk_none {n : Nat} (hn : n < 17) : frk n (up 0 n) = [] := by
  rw [frk_up n hn n hn (Nat.le_refl _), Nat.sub_self]
  rfl
theorem rt_up {n m : Int} {a k : Nat} {f : List Int} (hm : mayT n m = true) (hk : 1 ≤ k) (ha : ((a + k : Nat) : Int) ≤ n) (hf : f.length = k) : rtT n m (up a k) (zs k) f = true := by
  rw [rtT_up hm (by rw [up_len]; omega) (by rw [up_len, zs_len]) (by rw [up_len]; exact hf)]
  refine up_yes (fun i hi => ?_)
  rw [up_len] at hi
  have hm2 := of_decide_eq_true hm
  refine ⟨by rw [up_get hi]; omega, ?_, by rw [zs_get]; omega⟩
  rw [up_get hi]
  intro hx
  obtain ⟨j, hj, e⟩ := mem_getD hx
  rw [List.length_take, up_len] at hj
  rw [getD_take (by omega), up_get (by omega)] at e
  omega
theorem room_is {n m : Int} {k : Nat} {o f : List Int} (hm : mayT n m = true) (hk : 1 ≤ k) (hn : (k : Int) ≤ n) (ho : o.length = k) : table_Room.f n m o (zs k) f = some (m + m * (n - k)) := by
  have hm2 := of_decide_eq_true hm
  unfold table_Room.f
  have e1 : rd (zs k) ((o.length : Int) - 1) = 0 := zs_get _ _
  rw [last_is n m o (zs k) f (by omega), Option.bind_some, if_pos (by omega), if_pos (by rw [zs_len]; omega), e1, ho]
  have h1 : 0 ≤ m * (n - k) := Int.mul_nonneg (by omega) (by omega)
  have h2 : m * (n - k) ≤ 30 * 16 := Int.mul_le_mul (by omega) (by omega) (by omega) (by omega)
  have e2 : wrap64 (n - (k : Int)) = n - k := by unfold wrap64; omega
  rw [e2]
  generalize m * (n - (k : Int)) = q at h1 h2
  congr 1
  unfold wrap64
  omega
/-- A table abides an append to a row that is apart from its lists. -/
theorem TR_apart {w w' : World} {B base : Nat} {Ao Al Af : Option Addr} {co cl cf : Nat} {o l f xs : List Int} {v : Value} {ok : Nat → Prop} (h : TR w B Ao co o Al cl l Af cf f) (hv : Kd.R (Kd.int .i64) 3 w base ok v xs) (hd : ∀ k, v.ownBlock = some k → (Value.slice Ao o.length co).ownBlock ≠ some k ∧ (Value.slice Al l.length cl).ownBlock ≠ some k) (hg : w.grownBy w' v.ownBlock) : TR w' B Ao co o Al cl l Af cf f := by
  refine ⟨⟨R_other h.1.1 rfl hg ?_, R_other h.1.2.1 rfl hg ?_, R_other h.1.2.2 rfl hg (type_ne hv h.1.2.2 (by decide))⟩, h.2⟩
  · cases hk : v.ownBlock with
    | none => exact .inr rfl
    | some k => exact .inl (fun e => (hd k hk).1 e.symm)
  · cases hk : v.ownBlock with
    | none => exact .inr rfl
    | some k => exact .inl (fun e => (hd k hk).2 e.symm)
theorem apart_on {w : World} {B : Nat} {Ao Al Af : Option Addr} {co cl cf : Nat} {o l f : List Int} {v v1 : Value} (h : TR w B Ao co o Al cl l Af cf f) (hd : ∀ k, v.ownBlock = some k → (Value.slice Ao o.length co).ownBlock ≠ some k ∧ (Value.slice Al l.length cl).ownBlock ≠ some k) (hat : v1.ownBlock = v.ownBlock ∨ ∃ b, v1.ownBlock = some b ∧ w.heap.size ≤ b) : ∀ k, v1.ownBlock = some k → (Value.slice Ao o.length co).ownBlock ≠ some k ∧ (Value.slice Al l.length cl).ownBlock ≠ some k := by
  intro k hk
  rcases hat with e | ⟨b, e, hb⟩
  · exact hd k (e ▸ hk)
  · rw [e] at hk
    cases hk
    exact ⟨fun q => by have := app_lt h.1.1 q; omega, fun q => by have := app_lt h.1.2.1 q; omega⟩
theorem apart_new {w w' : World} {B : Nat} {Ao Al Af : Option Addr} {co cl cf : Nat} {o l f : List Int} {base : Nat} {ok : Nat → Prop} {v : Value} {xs : List Int} (h : TR w' w.heap.size Ao co o Al cl l Af cf f) (hv : Kd.R (Kd.int .i64) 3 w base ok v xs) : ∀ k, v.ownBlock = some k → (Value.slice Ao o.length co).ownBlock ≠ some k ∧ (Value.slice Al l.length cl).ownBlock ≠ some k := fun k hk => by
  have h0 := app_lt hv hk
  exact ⟨fun q => by have := Kd.R_base h.1.1 k q; omega, fun q => by have := Kd.R_base h.1.2.1 k q; omega⟩
theorem apart_lit {w w' : World} {B : Nat} {Ao Al Af : Option Addr} {co cl cf : Nat} {o l f : List Int} {ok : Nat → Prop} {v : Value} {xs : List Int} (h : TR w B Ao co o Al cl l Af cf f) (hv : Kd.R (Kd.int .i64) 3 w' w.heap.size ok v xs) : ∀ k, v.ownBlock = some k → (Value.slice Ao o.length co).ownBlock ≠ some k ∧ (Value.slice Al l.length cl).ownBlock ≠ some k := fun k hk => by
  have h0 := Kd.R_base hv k hk
  exact ⟨fun q => by have := app_lt h.1.1 q; omega, fun q => by have := app_lt h.1.2.1 q; omega⟩
theorem R5 {α : Type} {d : Kd α} {W w : World} {g e base t : Nat} {cs : Array Value} {ok : Nat → Prop} {v v0 v1 v2 v3 v4 : Value} {xs : List α} (hW : W = ((((w.setCell ⟨g, 0, none⟩ v0).setCell ⟨g, 1, none⟩ v1).setCell ⟨g, 2, none⟩ v2).setCell ⟨g, 3, none⟩ v3).setCell ⟨g, 4, none⟩ v4) (h : w.heap[g]? = some (.cells cs t (0, 0))) (hr : d.R e w base ok v xs) (ht : ∀ q, q ∈ e :: d.E → q ≠ t := by decide) : d.R e W base ok v xs := by
  rw [hW]
  exact Kd.R_set (Kd.R_set (Kd.R_set (Kd.R_set (Kd.R_set hr h ht 0 v0) (blk_set h 0 v0) ht 1 v1) (blk_set (blk_set h 0 v0) 1 v1) ht 2 v2) (blk_set (blk_set (blk_set h 0 v0) 1 v1) 2 v2) ht 3 v3) (blk_set (blk_set (blk_set (blk_set h 0 v0) 1 v1) 2 v2) 3 v3) ht 4 v4
theorem ints_same (l : List Int) (h : l.length ≤ 16) : ∃ k, lodgerref07_Ints.f k l l = some true := by
  have key : ∀ (d i : Nat), l.length - i = d → i ≤ l.length → ∃ k, lodgerref07_Ints.l0 k l l (i : Int) = some true := by
    intro d
    induction d with
    | zero =>
      intro i h1 h2
      refine ⟨1, ?_⟩
      unfold lodgerref07_Ints.l0
      rw [if_neg (by omega)]
    | succ d ih =>
      intro i h1 h2
      obtain ⟨k, hk⟩ := ih (i + 1) (by omega) (by omega)
      refine ⟨k + 1, ?_⟩
      unfold lodgerref07_Ints.l0
      have e : wrap64 ((i : Int) + 1) = ((i + 1 : Nat) : Int) := by unfold wrap64; omega
      rw [if_pos (by omega), if_pos (by omega), if_pos (by omega), if_pos rfl, e]
      exact hk
  obtain ⟨k, hk⟩ := key l.length 0 rfl (by omega)
  refine ⟨k, ?_⟩
  unfold lodgerref07_Ints.f
  simpa using hk
end Go.Proofs.Ytbefoehjlgdcgaa.H
