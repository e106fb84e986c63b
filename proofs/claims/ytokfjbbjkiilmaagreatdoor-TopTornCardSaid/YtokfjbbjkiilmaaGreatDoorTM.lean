/-
TopTorn: part of its walk (Iter, Ix, Ix2).
-/
import Derived.Shelf.SlIter.Nil
import Derived.Shelf.SortM.Plain
import Derived.Shelf.SortM.SortNone
import Derived.Ground.GgzProg
import Derived.Ground.SlgmProg
import Derived.Test.YtokfjbbjkiilmaaGreatDoorProg
import Derived.Test.YtokfjbbjkiilmaaGreatDoorTL
import Derived.Maps.Own
set_option linter.unusedVariables false
set_option linter.unusedSimpArgs false
namespace Go.Proofs
open Go.Shelf
def Tryz.keys170_ren : Go.Shelf.Ren := ⟨fun | 7 => 170 | 10 => 211 | n => n,fun | 23 => 229 | 26 => 9 | 3 => 183 | 28 => 272 | 0 => 0 | 27 => 271 | 33 => 142 | 4 => 4 | n => n,fun | n => n⟩
theorem Tryz.keys170 : Go.Proofs.SlLaysZ.n7 Tryz.prog Tryz.keys170_ren := {
 mixed := by kernel_rfl
 f7 := ⟨Tryz.f170.name,by decide,Tryz.func170.trans (congrArg some (by kernel_rfl))⟩
 f10 := ⟨Tryz.f211.name,by decide,Tryz.func211.trans (congrArg some (by kernel_rfl))⟩
 t0 := Tryz.underlying0
 a0 := Tryz.isAgg0
 z0 := Tryz.sizeOf0
 v0 := Tryz.zeroValue0
 t4 := Tryz.underlying4
 a4 := Tryz.isAgg4
 z4 := Tryz.sizeOf4
 v4 := Tryz.zeroValue4
 t23 := Tryz.underlying229
 a23 := Tryz.isAgg229
 z23 := Tryz.sizeOf229
 v23 := Tryz.zeroValue229
 t26 := Tryz.underlying9
 a26 := Tryz.isAgg9
 z26 := Tryz.sizeOf9
 v26 := Tryz.zeroValue9
 t27 := Tryz.underlying271
 a27 := Tryz.isAgg271
 z27 := Tryz.sizeOf271
 v27 := Tryz.zeroValue271
 t28 := Tryz.underlying272
 a28 := Tryz.isAgg272
 z28 := Tryz.sizeOf272
 v28 := Tryz.zeroValue272
 t33 := Tryz.underlying142
 a33 := Tryz.isAgg142
 z33 := Tryz.sizeOf142
 v33 := Tryz.zeroValue142 }
def Tryz.sorted169_ren : Go.Shelf.Ren := ⟨fun | 6 => 169 | 8 => 209 | 9 => 210 | 11 => 234 | 13 => 236 | 12 => 235 | 23 => 268 | 24 => 269 | 14 => 259 | 15 => 260 | 16 => 261 | 17 => 262 | 18 => 263 | 19 => 264 | 20 => 265 | 21 => 266 | 22 => 267 | 25 => 286 | 26 => 287 | 27 => 288 | 28 => 289 | 29 => 290 | 30 => 291 | 31 => 307 | n => n,fun | 26 => 9 | 28 => 272 | 24 => 191 | 0 => 0 | 3 => 3 | 37 => 351 | 48 => 186 | 50 => 35 | 4 => 4 | 40 => 384 | 39 => 383 | 45 => 388 | 5 => 5 | 9 => 9 | 51 => 406 | 55 => 409 | 57 => 425 | 58 => 392 | 33 => 142 | n => n,fun | n => n⟩
theorem Tryz.sorted169 : Go.Proofs.SlLaysZ.n6 Tryz.prog Tryz.sorted169_ren := {
 mixed := by kernel_rfl
 f6 := ⟨Tryz.f169.name,by decide,Tryz.func169.trans (congrArg some (by kernel_rfl))⟩
 f8 := ⟨Tryz.f209.name,by decide,Tryz.func209.trans (congrArg some (by kernel_rfl))⟩
 f11 := ⟨Tryz.f234.name,by decide,Tryz.func234.trans (congrArg some (by kernel_rfl))⟩
 t0 := Tryz.underlying0
 a0 := Tryz.isAgg0
 z0 := Tryz.sizeOf0
 v0 := Tryz.zeroValue0
 t24 := Tryz.underlying191
 a24 := Tryz.isAgg191
 z24 := Tryz.sizeOf191
 v24 := Tryz.zeroValue191
 t26 := Tryz.underlying9
 a26 := Tryz.isAgg9
 z26 := Tryz.sizeOf9
 v26 := Tryz.zeroValue9
 t28 := Tryz.underlying272
 a28 := Tryz.isAgg272
 z28 := Tryz.sizeOf272
 v28 := Tryz.zeroValue272
 i26 := by kernel_rfl }
def Tryz.sort210_ren : Go.Shelf.Ren := ⟨fun | 6 => 210 | 8 => 236 | 9 => 235 | 19 => 268 | 20 => 269 | 21 => 259 | 22 => 260 | 23 => 261 | 24 => 262 | 25 => 263 | 26 => 264 | 27 => 265 | 28 => 266 | 29 => 267 | 36 => 286 | 31 => 287 | 32 => 288 | 37 => 289 | 38 => 290 | 39 => 291 | 41 => 307 | n => n,fun | 27 => 191 | 29 => 9 | 3 => 3 | 32 => 351 | 26 => 191 | 0 => 0 | 44 => 186 | 46 => 35 | 4 => 4 | 36 => 384 | 35 => 383 | 41 => 388 | 5 => 5 | 9 => 9 | 53 => 406 | 57 => 409 | 63 => 425 | 64 => 392 | n => n,fun | n => n⟩
theorem Tryz.sort210 : Go.Proofs.SlLaysM.n6 Tryz.prog Tryz.sort210_ren := {
 mixed := by kernel_rfl
 f6 := ⟨Tryz.f210.name,by decide,Tryz.func210.trans (congrArg some (by kernel_rfl))⟩
 f8 := Tryz.func236.trans (congrArg some (by kernel_rfl))
 f9 := ⟨Tryz.f235.name,by decide,Tryz.func235.trans (congrArg some (by kernel_rfl))⟩
 f19 := Tryz.func268.trans (congrArg some (by kernel_rfl))
 f20 := Tryz.func269.trans (congrArg some (by kernel_rfl))
 f21 := ⟨Tryz.f259.name,by decide,Tryz.func259.trans (congrArg some (by kernel_rfl))⟩
 f22 := ⟨Tryz.f260.name,by decide,Tryz.func260.trans (congrArg some (by kernel_rfl))⟩
 f23 := ⟨Tryz.f261.name,by decide,Tryz.func261.trans (congrArg some (by kernel_rfl))⟩
 f24 := ⟨Tryz.f262.name,by decide,Tryz.func262.trans (congrArg some (by kernel_rfl))⟩
 f25 := ⟨Tryz.f263.name,by decide,Tryz.func263.trans (congrArg some (by kernel_rfl))⟩
 f26 := ⟨Tryz.f264.name,by decide,Tryz.func264.trans (congrArg some (by kernel_rfl))⟩
 f27 := ⟨Tryz.f265.name,by decide,Tryz.func265.trans (congrArg some (by kernel_rfl))⟩
 f28 := ⟨Tryz.f266.name,by decide,Tryz.func266.trans (congrArg some (by kernel_rfl))⟩
 f29 := ⟨Tryz.f267.name,by decide,Tryz.func267.trans (congrArg some (by kernel_rfl))⟩
 f31 := Tryz.func287.trans (congrArg some (by kernel_rfl))
 f32 := Tryz.func288.trans (congrArg some (by kernel_rfl))
 f36 := ⟨Tryz.f286.name,by decide,Tryz.func286.trans (congrArg some (by kernel_rfl))⟩
 f37 := ⟨Tryz.f289.name,by decide,Tryz.func289.trans (congrArg some (by kernel_rfl))⟩
 f38 := ⟨Tryz.f290.name,by decide,Tryz.func290.trans (congrArg some (by kernel_rfl))⟩
 f39 := ⟨Tryz.f291.name,by decide,Tryz.func291.trans (congrArg some (by kernel_rfl))⟩
 f41 := ⟨Tryz.f307.name,by decide,Tryz.func307.trans (congrArg some (by kernel_rfl))⟩
 t0 := Tryz.underlying0
 a0 := Tryz.isAgg0
 z0 := Tryz.sizeOf0
 v0 := Tryz.zeroValue0
 t3 := Tryz.underlying3
 a3 := Tryz.isAgg3
 z3 := Tryz.sizeOf3
 v3 := Tryz.zeroValue3
 t4 := Tryz.underlying4
 a4 := Tryz.isAgg4
 z4 := Tryz.sizeOf4
 v4 := Tryz.zeroValue4
 t5 := Tryz.underlying5
 a5 := Tryz.isAgg5
 z5 := Tryz.sizeOf5
 v5 := Tryz.zeroValue5
 t9 := Tryz.underlying9
 a9 := Tryz.isAgg9
 z9 := Tryz.sizeOf9
 v9 := Tryz.zeroValue9
 t26 := Tryz.underlying191
 a26 := Tryz.isAgg191
 z26 := Tryz.sizeOf191
 v26 := Tryz.zeroValue191
 t27 := Tryz.underlying191
 a27 := Tryz.isAgg191
 z27 := Tryz.sizeOf191
 v27 := Tryz.zeroValue191
 t29 := Tryz.underlying9
 a29 := Tryz.isAgg9
 z29 := Tryz.sizeOf9
 v29 := Tryz.zeroValue9
 t32 := Tryz.underlying351
 a32 := Tryz.isAgg351
 z32 := Tryz.sizeOf351
 v32 := Tryz.zeroValue351
 t35 := Tryz.underlying383
 a35 := Tryz.isAgg383
 z35 := Tryz.sizeOf383
 v35 := Tryz.zeroValue383
 t36 := Tryz.underlying384
 a36 := Tryz.isAgg384
 z36 := Tryz.sizeOf384
 v36 := Tryz.zeroValue384
 t41 := Tryz.underlying388
 a41 := Tryz.isAgg388
 z41 := Tryz.sizeOf388
 v41 := Tryz.zeroValue388
 t44 := Tryz.underlying186
 a44 := Tryz.isAgg186
 z44 := Tryz.sizeOf186
 v44 := Tryz.zeroValue186
 t46 := Tryz.underlying35
 a46 := Tryz.isAgg35
 z46 := Tryz.sizeOf35
 v46 := Tryz.zeroValue35
 t53 := Tryz.underlying406
 a53 := Tryz.isAgg406
 z53 := Tryz.sizeOf406
 v53 := Tryz.zeroValue406
 t57 := Tryz.underlying409
 a57 := Tryz.isAgg409
 z57 := Tryz.sizeOf409
 v57 := Tryz.zeroValue409
 t63 := Tryz.underlying425
 a63 := Tryz.isAgg425
 z63 := Tryz.sizeOf425
 v63 := Tryz.zeroValue425
 t64 := Tryz.underlying392
 a64 := Tryz.isAgg392
 z64 := Tryz.sizeOf392
 v64 := Tryz.zeroValue392 }
open Go.RowKit Go.Maps Go.Sort in
/-- slices.Sort's two contracts at this dump, at the fence that asks nothing. -/
theorem Tryz.sorts169 (m : Nat) : AnyZ.SortsIn Tryz.prog Tryz.sorted169_ren Fence.wide m :=
 ⟨fun blk off cap ss W hH hblk hsz => callsIn_wide.2 (AnyM.slices_Sort_string Tryz.sort210 blk off cap ss W hH hblk hsz),
  fun p cap W => callsIn_wide.2 (AnyM.slices_Sort_string_none Tryz.sort210 p cap W)⟩
open Go.RowKit Go.Maps Go.Sort in
/-- **maps.Keys[map[string]lodger/index.Entry,string,lodger/index.Entry], at whatever map, the nil one too:** a function value over ONE NEW BLOCK, which holds the map. -/
theorem Tryz.maps_Keys_170 (mb : Option Nat) (W : World) : CallsIn Fence.wide 5 Tryz.prog 170 #[.map mb] W fun e w' => e = .returned (.func (.func 211) #[] #[.pointer (some ⟨W.heap.size,0,none⟩)]) ∧ w' = W.alloc (.cells #[.map mb] 229) :=
 AnyZ.keys_in Tryz.keys170 Fence.wide 5 trivial rfl mb W
open Go.RowKit Go.Maps Go.Sort in
/-- **slices.Sorted[string] AT WHAT maps.Keys[map[string]lodger/index.Entry,string,lodger/index.Entry] HANDED BACK FOR A MAP THAT IS NOT nil** ('w': the world AHEAD of maps.Keys' call): A NEW SLICE THAT HOLDS THE MAP's KEYS, SORTED; nil just where it has none; nothing that lay before has turned. -/
theorem Tryz.slices_Sorted_keys_169_170 {H : Type} (b nn : Nat) (D0 : DataW H) (R : Value → Option (DataW H × List MemPlace)) (w : World) (hown : w.ownsMap Tryz.prog 9 R b nn D0) (hmax : Maps.size D0 ≤ maxLen) (hbytes : Maps.size D0 * 16 ≤ 140737488355328) :
 CallsIn Fence.wide 5 Tryz.prog 169 #[.func (.func 211) #[] #[.pointer (some ⟨w.heap.size,0,none⟩)]] (w.alloc (.cells #[.map (some b)] 229)) fun e w' => ∃ (v : Value) (ss : List (List UInt8)),e = .returned v ∧ ss.Perm (strKeys D0) ∧
  w'.ownsRow (w.alloc (.cells #[.map (some b)] 229)).heap.size 9 1 v ss.length ((ss.mergeSort (fun x y => decide (x ≤ y))).map encStr) ∧ (v = .slice none 0 0 ↔ ss = []) ∧ Below (w.alloc (.cells #[.map (some b)] 229)).heap.size (w.alloc (.cells #[.map (some b)] 229)) w' := by
 have hbl := hown.lt
 have hseq : SeqGives Fence.wide 2 Tryz.prog 211 #[.pointer (some ⟨w.heap.size,0,none⟩)] encStr (fun ss => ss.Perm (strKeys D0)) (Maps.size D0) (w.alloc (.cells #[.map (some b)] 229)) :=
  AnyZ.keys_gives (ρ := Tryz.keys170_ren) { Tryz.keys170 with } Fence.wide _ trivial rfl (by omega) w.heap.size b nn D0 _ (by simp) (by simp) (by
   obtain ⟨es,clock,hb,Ft,hs,hD⟩ := hown
   exact ⟨es,clock,(Below.heap_alloc _ _ b hbl).trans hb,Ft,hs,hD⟩)
 exact AnyZ.sorted_in Tryz.sorted169 Fence.wide 5 trivial trivial trivial trivial rfl (by omega) (Tryz.sorts169 _) (enters_of Tryz.func210 (by kernel_rfl) rfl) 211 #[.pointer (some ⟨w.heap.size,0,none⟩)] trivial (enters_of Tryz.func211 (by kernel_rfl) rfl) _ _ hmax hbytes _ hseq
end Go.Proofs
namespace Go.Proofs.YtokfjbbjkiilmaaGreatDoor.H
open Go.RowKit Go.Proofs.YtokfjbbjkiilmaaGreatDoorW.PrintWords Go.Proofs.YtokfjbbjkiilmaaGreatDoorW.PrintLast Go.Proofs.YtokfjbbjkiilmaaGreatDoorW.PrintMore
set_option maxHeartbeats 8000000
set_option maxRecDepth 100000
attribute [local go_sem] max2_int min2_int min_two max_two
attribute [local go_sem] run_makeMap0
open Go.Maps Go.Sort in
def R0 : Value → Option (DataW Unit × List MemPlace) := fun _ => some (.nil,[])
open Go.Maps Go.Sort in
theorem ownsMap0 {w : World} {nm cn : Nat} (h : w.heap[nm]? = some (.map #[] cn)) : w.ownsMap Tryz.prog 9 R0 nm 0 (.map []) :=
 ⟨#[],cn,h,⟨by simp,⟨by simp,by simp,by simp⟩,by simp⟩,by simp,rfl⟩
open Go.Maps Go.Sort in
theorem ownsMap1 {w : World} {nm cn b : Nat} {E : Value} (h : w.heap[nm]? = some (.map #[{ key := .string idA,val := E,born := b }] cn)) (hb : b < cn) : w.ownsMap Tryz.prog 9 R0 nm 1 (.map [(.string idA.data.toList,.nil)]) :=
 ⟨_,cn,h,⟨by simp [maxLen],⟨by simpa using hb,by simp,by simp⟩,by simp only [List.mem_singleton,forall_eq,Array.toList]; exact ⟨(.string idA.data.toList,.nil),by kernel_rfl⟩⟩,by simp,by kernel_rfl⟩
open Go.Maps Go.Sort in
theorem sorted0 (nm cn : Nat) (w : World) (h : w.heap[nm]? = some (.map #[] cn)) : Calls Tryz.prog 169 #[.func (.func 211) #[] #[.pointer (some ⟨w.heap.size,0,none⟩)]] (w.alloc (.cells #[.map (some nm)] 229)) fun e w' => e = .returned (.slice none 0 0) ∧ Below w.heap.size w w' := by
 refine (callsIn_wide.1 (Tryz.slices_Sorted_keys_169_170 nm 0 _ R0 w (ownsMap0 h) (by simp [Maps.size]) (by simp [Maps.size]))).mono ?_
 rintro e w' ⟨v,ss,rfl,hp,hr,hn,hb⟩
 have : ss = [] := hp.eq_nil
 rw [hn.2 this]
 exact ⟨rfl,below_step (below_alloc (Below.refl _ _) _) hb⟩
open Go.Maps Go.Sort in
theorem sorted1 (nm cn b : Nat) (E : Value) (w : World) (h : w.heap[nm]? = some (.map #[{ key := .string idA,val := E,born := b }] cn)) (hb : b < cn) : Calls Tryz.prog 169 #[.func (.func 211) #[] #[.pointer (some ⟨w.heap.size,0,none⟩)]] (w.alloc (.cells #[.map (some nm)] 229)) fun e w' => ∃ g c : Nat,e = .returned (.slice (some ⟨g,0,none⟩) 1 c) ∧ w'.cell? ⟨g,0,none⟩ = some (.string idA) ∧ Below w.heap.size w w' := by
 refine (callsIn_wide.1 (Tryz.slices_Sorted_keys_169_170 nm 1 _ R0 w (ownsMap1 h hb) (by simp [Maps.size,maxLen]) (by simp [Maps.size]))).mono ?_
 rintro e w' ⟨v,ss,rfl,hp,hr,hn,hb⟩
 have he : ss = [idA.data.toList] := List.perm_singleton.1 hp
 subst he
 obtain ⟨g,cap,cur,rfl,-,hc⟩ := own_cells (w := w') (e := 9) (z := 1) ⟨hr.1,hr.2.imp id (fun ⟨g,cap,cur,e,_,r⟩ => ⟨g,cap,cur,e,Nat.zero_le _,r⟩)⟩ (by simp)
 exact ⟨g,cap,rfl,hc 0 _ (by simp [encStr]),below_step (below_alloc (Below.refl _ _) _) hb⟩
theorem inew_calls (w : World) :
 Calls Tryz.prog 96 #[] w fun e w' => ∃ ix nm pm : Nat,e = .returned (.pointer (some ⟨ix,0,none⟩)) ∧ (w.heap.size ≤ ix ∧ w.heap.size ≤ nm ∧ w.heap.size ≤ pm ∧ nm ≠ pm) ∧ w'.heap[ix]? = some (.cells #[.map (some nm),.map (some pm)] 232 (0,0)) ∧ w'.heap[nm]? = some (.map #[] 0) ∧ w'.heap[pm]? = some (.map #[] 0) ∧ Below w.heap.size w w' := by
 go_enter Tryz.func96,Tryz.ntmps96
 go_wp2_with fail
 go_ret
 refine ⟨w.heap.size + 1 + 1,w.heap.size,w.heap.size + 1,by simp,⟨by omega,by omega,by omega,by omega⟩,?_,blk_alloc (blk_alloc (blk_new _ _) _) _,?_,below_alloc (below_alloc (below_alloc (Below.refl _ _) _) _) _⟩
 ·have h_ := blk_new ((w.alloc (.map #[] 0)).alloc (.map #[] 0)) (.cells #[.map (some w.heap.size),.map (some (w.heap.size + 1))] 232)
  simpa using h_
 ·have h_ := blk_alloc (blk_new (w.alloc (.map #[] 0)) (.map #[] 0)) (.cells #[.map (some w.heap.size),.map (some (w.heap.size + 1))] 232)
  simpa using h_
theorem idslit_calls (bx ix nm pm : Nat) (v dl sz sg sl : Value) (w : World) (hx : w.heap[ix]? = some (.cells #[.map (some nm),.map (some pm)] 232 (0,0))) (hb : w.cell? ⟨bx,0,none⟩ = some (.pointer (some ⟨ix,0,none⟩))) (hl : (Instr.lookup 229 (.map (some nm)) (.string idA) false).run Tryz.prog w = .ok (.agg #[v,dl,.bool true,sz,sg,sl]) w) :
 Calls Tryz.prog 171 #[.string idA,.pointer (some ⟨bx,0,none⟩)] w fun e w' => e = .returned (.bool false) ∧ w' = w := by
 have y0 : w.cell? ⟨ix,0,none⟩ = some (.map (some nm)) := (blk_cell hx 0).trans rfl
 have hfd : ∀ W,(Instr.field 183 (.agg #[v,dl,.bool true,sz,sg,sl]) 2).run Tryz.prog W = .ok (.bool true) W := fun W => by kernel_rfl
 clear hx
 go_enter Tryz.func171,Tryz.ntmps171
 go_wp2_with fail
 go_ret
 exact ⟨rfl,rfl⟩
theorem indexs0 (bx : Nat) (w : World) :
 Calls Tryz.prog 208 #[.slice none 0 0,.func (.func 171) #[] #[.pointer (some ⟨bx,0,none⟩)]] w fun e w' => e = .returned (.int .i64 (-1)) ∧ w' = w := by
 go_enter Tryz.func208,Tryz.ntmps208
 go_wp2_with fail
 go_loopw [8] (fun v wr => v = .int .i64 0 ∧ wr = w) (fun v _ => 1 - (intOf v).toNat)
 case atStart => exact ⟨rfl,rfl⟩
 case round =>
  obtain ⟨rfl,rfl⟩ := hrel
  go_wp2_with fail
  go_ret
  exact ⟨rfl,rfl⟩
theorem indexs1 (bx g c : Nat) (w : World) (hg : w.cell? ⟨g,0,none⟩ = some (.string idA)) (hf : Calls Tryz.prog 171 #[.string idA,.pointer (some ⟨bx,0,none⟩)] w fun e w' => e = .returned (.bool false) ∧ w' = w) :
 Calls Tryz.prog 208 #[.slice (some ⟨g,0,none⟩) 1 c,.func (.func 171) #[] #[.pointer (some ⟨bx,0,none⟩)]] w fun e w' => e = .returned (.int .i64 (-1)) ∧ w' = w := by
 go_enter Tryz.func208,Tryz.ntmps208
 go_wp2_with fail
 go_loopw [8] (fun v wr => (v = .int .i64 0 ∨ v = .int .i64 1) ∧ wr = w) (fun v _ => 1 - (intOf v).toNat)
 case atStart => exact ⟨.inl rfl,rfl⟩
 case round =>
  obtain ⟨rfl | rfl,rfl⟩ := hrel
  ·go_wp2_with fail
   refine hf.mono ?_
   rintro e_ w2 ⟨rfl,rfl⟩
   go_wp2_with fail
   exact ⟨⟨.inr rfl,by trivial⟩,by simp [intOf]⟩
  ·go_wp2_with fail
   go_ret
   exact ⟨rfl,rfl⟩
theorem deletes0 (bx : Nat) (w : World) :
 Calls Tryz.prog 168 #[.slice none 0 0,.func (.func 171) #[] #[.pointer (some ⟨bx,0,none⟩)]] w fun e w' => e = .returned (.slice none 0 0) ∧ w' = w := by
 go_enter Tryz.func168,Tryz.ntmps168
 go_wp2_with fail
 refine (indexs0 bx _).mono ?_
 rintro e_ w2 ⟨rfl,rfl⟩
 go_wp2_with fail
 go_ret
 exact ⟨rfl,rfl⟩
theorem deletes1 (bx g c : Nat) (w : World) (hg : w.cell? ⟨g,0,none⟩ = some (.string idA)) (hf : Calls Tryz.prog 171 #[.string idA,.pointer (some ⟨bx,0,none⟩)] w fun e w' => e = .returned (.bool false) ∧ w' = w) :
 Calls Tryz.prog 168 #[.slice (some ⟨g,0,none⟩) 1 c,.func (.func 171) #[] #[.pointer (some ⟨bx,0,none⟩)]] w fun e w' => e = .returned (.slice (some ⟨g,0,none⟩) 1 c) ∧ w' = w := by
 go_enter Tryz.func168,Tryz.ntmps168
 go_wp2_with fail
 refine (indexs1 bx g c _ hg hf).mono ?_
 rintro e_ w2 ⟨rfl,rfl⟩
 go_wp2_with fail
 go_ret
 exact ⟨rfl,rfl⟩
theorem ids0_calls (ix nm pm cn : Nat) (w : World) (hx : w.heap[ix]? = some (.cells #[.map (some nm),.map (some pm)] 232 (0,0))) (hn : w.heap[nm]? = some (.map #[] cn)) :
 Calls Tryz.prog 119 #[.pointer (some ⟨ix,0,none⟩)] w fun e w' => e = .returned (.slice none 0 0) ∧ Below w.heap.size w w' := by
 have HX := Aside0.mk hx
 have HN := Aside0.mk hn
 clear hx hn
 go_enter Tryz.func119,Tryz.ntmps119
 go_upto_region 1 with fail
 obtain ⟨W1,bx,hW_,hbx,HBX,hb_⟩ := new1 w #[.pointer (some ⟨ix,0,none⟩)] 128
 rw [← hW_,← hbx.out]
 replace HX := mb HX hb_
 replace HN := mb HN hb_
 have HB := Aside0.mk hb_
 clear hW_ hb_
 have x0 : W1.cell? ⟨bx,0,none⟩ = some (.pointer (some ⟨ix,0,none⟩)) := cL HBX 0 rfl
 have y0 : W1.cell? ⟨ix,0,none⟩ = some (.map (some nm)) := cL HX 0 rfl
 go_wp2_with fail
 refine (callsIn_wide.1 (Tryz.maps_Keys_170 _ _)).mono ?_
 rintro e_ w2 ⟨rfl,rfl⟩
 clear x0 y0
 go_wp2_with fail
 refine (sorted0 nm cn _ HN.out).mono ?_
 rintro e_ w3 ⟨rfl,hb⟩
 replace HX := mb HX hb
 replace HN := mb HN hb
 replace HBX := mb HBX hb
 replace HB := mS HB hb
 clear hb
 have x0 : w3.cell? ⟨bx,0,none⟩ = some (.pointer (some ⟨ix,0,none⟩)) := cL HBX 0 rfl
 go_wp2_with fail
 refine (deletes0 bx _).mono ?_
 rintro e_ w2 ⟨rfl,rfl⟩
 go_wp2_with fail
 go_ret
 exact ⟨rfl,HB.out⟩
theorem lives0_calls (ix nm pm cn : Nat) (w : World) (hx : w.heap[ix]? = some (.cells #[.map (some nm),.map (some pm)] 232 (0,0))) (hn : w.heap[nm]? = some (.map #[] cn)) :
 Calls Tryz.prog 60 #[.pointer (some ⟨ix,0,none⟩)] w fun e w' => e = .returned (.int .i64 0) ∧ Below w.heap.size w w' := by
 go_enter Tryz.func60,Tryz.ntmps60
 go_wp2_with fail
 refine (ids0_calls ix nm pm cn _ hx hn).mono ?_
 rintro e_ w2 ⟨rfl,hb⟩
 go_wp2_with fail
 go_ret
 exact ⟨rfl,hb⟩
theorem ids1_calls (ix nm pm cn : Nat) (b : Nat) (v dl sz sg sl : Value) (w : World) (hx : w.heap[ix]? = some (.cells #[.map (some nm),.map (some pm)] 232 (0,0))) (hn : w.heap[nm]? = some (.map #[{ key := .string idA,val := .agg #[v,dl,.bool true,sz,sg,sl],born := b }] cn)) (hb : b < cn) :
 Calls Tryz.prog 119 #[.pointer (some ⟨ix,0,none⟩)] w fun e w' => ∃ g c : Nat,e = .returned (.slice (some ⟨g,0,none⟩) 1 c) ∧ w'.cell? ⟨g,0,none⟩ = some (.string idA) ∧ Below w.heap.size w w' := by
 have HX := Aside0.mk hx
 have HN := Aside0.mk hn
 have HBC := Aside0.mk hb
 clear hb
 clear hx hn
 go_enter Tryz.func119,Tryz.ntmps119
 go_upto_region 1 with fail
 obtain ⟨W1,bx,hW_,hbx,HBX,hb_⟩ := new1 w #[.pointer (some ⟨ix,0,none⟩)] 128
 rw [← hW_,← hbx.out]
 replace HX := mb HX hb_
 replace HN := mb HN hb_
 have HB := Aside0.mk hb_
 clear hW_ hb_
 have x0 : W1.cell? ⟨bx,0,none⟩ = some (.pointer (some ⟨ix,0,none⟩)) := cL HBX 0 rfl
 have y0 : W1.cell? ⟨ix,0,none⟩ = some (.map (some nm)) := cL HX 0 rfl
 go_wp2_with fail
 refine (callsIn_wide.1 (Tryz.maps_Keys_170 _ _)).mono ?_
 rintro e_ w2 ⟨rfl,rfl⟩
 clear x0 y0
 go_wp2_with fail
 refine (sorted1 nm cn b _ _ HN.out HBC.out).mono ?_
 rintro e_ w3 ⟨g,c,rfl,hg,hb⟩
 replace HX := mb HX hb
 replace HN := mb HN hb
 replace HBX := mb HBX hb
 replace HB := mS HB hb
 clear hb
 have x0 : w3.cell? ⟨bx,0,none⟩ = some (.pointer (some ⟨ix,0,none⟩)) := cL HBX 0 rfl
 go_wp2_with fail
 have hlk : (Instr.lookup 229 (.map (some nm)) (.string idA) false).run Tryz.prog w3 = .ok (.agg #[v,dl,.bool true,sz,sg,sl]) w3 := run_look (key := .string idA) (k := 9) (e := 183) (kd := .string) (i := 0) (by kernel_rfl) (by kernel_rfl) trivial HN.out (by kernel_rfl) false
 refine (deletes1 bx g c _ hg (idslit_calls bx ix nm pm v dl sz sg sl _ HX.out x0 hlk)).mono ?_
 rintro e_ w2 ⟨rfl,rfl⟩
 go_wp2_with fail
 go_ret
 exact ⟨g,c,rfl,hg,HB.out⟩
end Go.Proofs.YtokfjbbjkiilmaaGreatDoor.H
namespace Go.Proofs.YtokfjbbjkiilmaaGreatDoor.H
open Go.RowKit Go.Proofs.YtokfjbbjkiilmaaGreatDoorW.PrintWords Go.Proofs.YtokfjbbjkiilmaaGreatDoorW.PrintLast Go.Proofs.YtokfjbbjkiilmaaGreatDoorW.PrintMore
set_option maxHeartbeats 8000000
set_option maxRecDepth 100000
attribute [local go_sem] max2_int min2_int min_two max_two
theorem newest_calls (ix nm pm cn : Nat) (ns : Array MapEntry) (v dl sz sg sl : Int) (lv b : Bool) (w : World) (hx : w.heap[ix]? = some (.cells #[.map (some nm),.map (some pm)] 232 (0,0))) (hn : w.heap[nm]? = some (.map ns cn)) (hlk : ∀ W : World,W.heap[nm]? = some (.map ns cn) → (Instr.lookup 229 (.map (some nm)) (.string idA) true).run Tryz.prog W = .ok (.tuple #[.agg #[.int .u64 v,.int .u64 dl,.bool lv,.int .i64 sz,.int .i64 sg,.int .i64 sl],.bool b]) W) :
 Calls Tryz.prog 117 #[.pointer (some ⟨ix,0,none⟩),.string idA] w fun e w' => e = .returned (.tuple #[.agg #[.int .u64 v,.int .u64 dl,.bool lv,.int .i64 sz,.int .i64 sg,.int .i64 sl],.bool b]) ∧ Below w.heap.size w w' := by
 have HX := Aside0.mk hx
 have HN := Aside0.mk hn
 clear hx hn
 go_enter Tryz.func117,Tryz.ntmps117
 go_upto_region 1 with fail
 obtain ⟨W1,g4,hW_,hg4,H4,hb_⟩ := new1 w #[.int .u64 0,.int .u64 0,.bool false,.int .i64 0,.int .i64 0,.int .i64 0] 183
 rw [← hW_,← hg4.out]
 replace HX := mb HX hb_
 replace HN := mb HN hb_
 have HB := Aside0.mk hb_
 clear hW_ hb_
 have G4 : Aside0 (w.heap.size ≤ g4) := ⟨by have := hg4.out; omega⟩
 have y0 : W1.cell? ⟨ix,0,none⟩ = some (.map (some nm)) := cL HX 0 rfl
 have hl := hlk W1 HN.out
 have q4 := Aside0.mk (blk_alloc H4.out (.cells #[.int .u64 0,.int .u64 0,.bool false,.int .i64 0,.int .i64 0,.int .i64 0] 183))
 have q6 := Aside0.mk (blk_new W1 (.cells #[.int .u64 0,.int .u64 0,.bool false,.int .i64 0,.int .i64 0,.int .i64 0] 183))
 have n46 : W1.heap.size ≠ g4 := (Nat.ne_of_lt (blk_lt H4.out)).symm
 have qm := Aside0.mk (mR #[.int .u64 v,.int .u64 dl,.bool lv,.int .i64 sz,.int .i64 sg,.int .i64 sl] q4.out n46.symm)
 go_wp2_with (first | (refine sr_ 6 15 #[.int .u64 v,.int .u64 dl,.bool lv,.int .i64 sz,.int .i64 sg,.int .i64 sl] q6.out ?_) | (refine lr_ 6 (setRow_heap _ _ _ _ _ _ q6.out) Tryz.underlying183 ?_) | (refine sr_ 4 17 #[.int .u64 v,.int .u64 dl,.bool lv,.int .i64 sz,.int .i64 sg,.int .i64 sl] qm.out ?_))
 refine bodyPost_ret (results_ct rfl _ _ g4 183 #[.int .u64 v,.int .u64 dl,.bool lv,.int .i64 sz,.int .i64 sg,.int .i64 sl] (0,0) _ rfl (setRow_heap _ _ _ _ _ _ qm.out) Tryz.underlying183 rfl (by kernel_rfl)) rfl ?_
 exact ⟨rfl,below_setRow (below_setRow (below_alloc HB.out _) (by have := HB.out.size; omega) _) G4.out _⟩
def iadd.T1 : Bool × List (List Nat × List Nat) := (true,[([],[]),([0],[0]),([1],[1]),([2],[2]),([],[]),([3,4],[3,4]),([5],[5]),([6],[6]),([6],[6]),([],[]),([9,7,0,1,2,3,4,5,6,7,9],[7,9]),([8,10,0,1,2,3,4,5,6,7,8,9,10],[8])])
def iadd.B1 : List Nat := [0,1,3,7,0,31,63,127,127,0,767,2047]
theorem iadd.tab1 : rtab .any (opsOf Tryz.f199 1) = iadd.T1 := by kernel_rfl
theorem iadd.bits1 : waitsOk iadd.T1.2 iadd.B1 = true := by kernel_rfl
def iadd.T4 : Bool × List (List Nat × List Nat) := (true,[([],[]),([0],[0]),([1],[1]),([2],[2]),([],[]),([],[]),([5],[5]),([6],[6]),([3,4,7,0,1,2,3,4,5,6,7],[3,4,7])])
def iadd.B4 : List Nat := [0,1,3,7,0,0,32,96,255]
theorem iadd.tab4 : rtab .any (opsOf Tryz.f199 4) = iadd.T4 := by kernel_rfl
theorem iadd.bits4 : waitsOk iadd.T4.2 iadd.B4 = true := by kernel_rfl
def iadd.T5 : Bool × List (List Nat × List Nat) := (true,[([],[]),([0],[0]),([1],[1]),([2],[2]),([],[]),([4],[4]),([3,5],[3,5]),([6],[6]),([7],[7]),([7],[7]),([],[]),([10,8,0,1,2,3,4,5,6,7,8,10],[8,10]),([9,11,0,1,2,3,4,5,6,7,8,9,10,11],[9])])
def iadd.B5 : List Nat := [0,1,3,7,0,16,63,127,255,255,0,1535,4095]
theorem iadd.tab5 : rtab .any (opsOf Tryz.f199 5) = iadd.T5 := by kernel_rfl
theorem iadd.bits5 : waitsOk iadd.T5.2 iadd.B5 = true := by kernel_rfl
def iadd.T8 : Bool × List (List Nat × List Nat) := (true,[([],[]),([0],[0]),([1],[1]),([2],[2]),([],[]),([4],[4]),([],[]),([6],[6]),([],[]),([8],[8]),([],[]),([10],[10]),([11],[11]),([],[]),([13],[13]),([14],[14]),([15],[15]),([],[]),([17],[17]),([18],[18]),([16,19],[16,19]),([],[]),([7,9,12,20,21],[7,9,12,20,21]),([3,5,22,0,1,2,3,4,5,6,7,8,9,10,11,12,13,14,15,16,17,18,19,20,21,22],[3,5,22])])
def iadd.B8 : List Nat := [0,1,3,7,0,16,0,64,0,256,0,1024,3072,0,8192,24576,57344,0,131072,393216,1040384,0,4194240,8388607]
theorem iadd.tab8 : rtab .any (opsOf Tryz.f199 8) = iadd.T8 := by kernel_rfl
theorem iadd.bits8 : waitsOk iadd.T8.2 iadd.B8 = true := by kernel_rfl
theorem iadd_calls (ix nm pm cn cp cn' cp' : Nat) (ns ps ps' : Array MapEntry) (ns' : Int → Array MapEntry) (a e0 ver d0 sg0 sl0 : Int) (s : ByteArray) (v dl sz sg sl : Int) (lv b : Bool) (w : World) (hx : w.heap[ix]? = some (.cells #[.map (some nm),.map (some pm)] 232 (0,0))) (hn : w.heap[nm]? = some (.map ns cn)) (hp : w.heap[pm]? = some (.map ps cp)) (hne : nm ≠ pm) (hlp : ∀ W : World,W.heap[pm]? = some (.map ps cp) → (Instr.lookup 230 (.map (some pm)) (.agg #[.int .i64 sg0,.int .i64 sl0]) true).run Tryz.prog W = .ok (.tuple #[.agg #[.string { data := #[] }],.bool false]) W) (hup : ∀ W : World,W.heap[pm]? = some (.map ps cp) → (Instr.mapUpdate 230 (.map (some pm)) (.agg #[.int .i64 sg0,.int .i64 sl0]) (.agg #[.string idA])).run Tryz.prog W = .ok () (setMap W pm ps' cp')) (hlk : ∀ W : World,W.heap[nm]? = some (.map ns cn) → (Instr.lookup 229 (.map (some nm)) (.string idA) true).run Tryz.prog W = .ok (.tuple #[.agg #[.int .u64 v,.int .u64 dl,.bool lv,.int .i64 sz,.int .i64 sg,.int .i64 sl],.bool b]) W) (hun : ∀ (z : Int) (W : World),W.heap[nm]? = some (.map ns cn) → (Instr.mapUpdate 229 (.map (some nm)) (.string idA) (.agg #[.int .u64 ver,.int .u64 d0,.bool true,.int .i64 z,.int .i64 sg0,.int .i64 sl0])).run Tryz.prog W = .ok () (setMap W nm (ns' z) cn')) (hv : v ≤ ver) :
 Calls Tryz.prog 199 #[.pointer (some ⟨ix,0,none⟩),.agg #[.int .u64 a,.int .u32 e0,.int .i64 1,.int .u64 ver,.int .u64 d0,.string idA,.string s],.agg #[.int .i64 sg0,.int .i64 sl0]] w fun e w' => e = .returned (.bool true) ∧ ∃ z,w'.heap[nm]? = some (.map (ns' z) cn') ∧ w'.heap[pm]? = some (.map ps' cp') ∧ Keep [nm,pm] w w' := by
 have HX := Aside0.mk hx
 have HN := Aside0.mk hn
 have HP := Aside0.mk hp
 have HNE := Aside0.mk hne
 have HLP := Aside0.mk hlp
 have HUP := Aside0.mk hup
 have HLK := Aside0.mk hlk
 have HUN := Aside0.mk hun
 have tv : decide (ver < v) = false := decide_eq_false (by omega)
 clear hx hn hp hne hlp hup hlk hun hv
 go_enter Tryz.func199,Tryz.ntmps199
 go_upto_region 1 with fail
 obtain ⟨W1,g4,g5,hW_,hg4,hg5,H4,H5,hb_⟩ := new2 w #[.int .u64 a,.int .u32 e0,.int .i64 1,.int .u64 ver,.int .u64 d0,.string idA,.string s] 188 #[.int .i64 sg0,.int .i64 sl0] 177
 rw [← hW_,← hg5.out,← hg4.out]
 replace HX := mb HX hb_
 replace HN := mb HN hb_
 replace HP := mb HP hb_
 have HB := Aside0.mk hb_
 clear hW_ hb_
 refine st_ 12 (fun w' => w'.cell? ⟨ix,1,none⟩ = some (.map (some pm)) ∧ w'.cell? ⟨g5,0,none⟩ = some (.int .i64 sg0) ∧ w'.cell? ⟨g5,1,none⟩ = some (.int .i64 sl0) ∧ (Instr.lookup 230 (.map (some pm)) (.agg #[.int .i64 sg0,.int .i64 sl0]) true).run Tryz.prog w' = .ok (.tuple #[.agg #[.string { data := #[] }],.bool false]) w') [10] ⟨(cD HX 1 rfl),(cD H5 0 rfl),(cD H5 1 rfl),(HLP.out _ (blk_drew HP.out))⟩ fun hHeld => ?_
 refine with_tabW iadd.tab1 iadd.bits1 (fun HT_ HW_ => ?_)
 replace HX := mD HX
 replace HN := mD HN
 replace HP := mD HP
 replace H4 := mD H4
 replace H5 := mD H5
 replace HB := bD HB
 generalize W1.drew = wd1 at *
 refine pa_ 0 12 HT_ ?_
 refine pa_ 1 13 HT_ ?_
 refine pa_ 2 14 HT_ ?_
 refine ta_ 3 15 HT_ HW_ hHeld ?_
 refine ta_ 4 16 HT_ HW_ hHeld ?_
 refine ta_ 5 17 HT_ HW_ hHeld ?_
 refine pa_ 6 11 HT_ ?_
 refine pa_ 7 18 HT_ ?_
 refine pa_ 8 19 HT_ ?_
 refine on_ 9 HT_ fun K hK => ?_
 refine allocR_ #[.string { data := #[] }] 298 (by rfl) rfl (by first | (go_simp; done) | (go_simp; rfl)) ?_
 intro g7 Wa hge hq hb
 have G_g7 : Aside0 (w.heap.size ≤ g7) := ⟨by have := HB.out.size; omega⟩
 have HS_ := Aside0.mk hq
 have Ng7HX : Aside0 (ix ≠ g7) := ⟨new_ne HX.out hge⟩
 have Ng7HN : Aside0 (nm ≠ g7) := ⟨new_ne HN.out hge⟩
 have Ng7HP : Aside0 (pm ≠ g7) := ⟨new_ne HP.out hge⟩
 have Ng7H4 : Aside0 (g4 ≠ g7) := ⟨new_ne H4.out hge⟩
 have Ng7H5 : Aside0 (g5 ≠ g7) := ⟨new_ne H5.out hge⟩
 replace HX := mb HX hb
 replace HN := mb HN hb
 replace HP := mb HP hb
 replace H4 := mb H4 hb
 replace H5 := mb H5 hb
 replace HB := mS HB hb
 clear hq hge hb
 refine hK.out _ _ ⟨(cL HX 1 rfl),(cL H5 0 rfl),(cL H5 1 rfl),(HLP.out _ HP.out)⟩ (fun hHeld => ?_)
 clear hK K
 refine no_ 7 ?_
 refine la_ 10 HT_ fun K hK => ?_
 refine sR_ 7 18 #[.string { data := #[] }] HS_.out ?_
 refine hK.out _ _ ?_
 clear hK K
 refine pa_ 11 8 HT_ ?_
 refine dn_ HT_ ?_
 clear HT_ HW_ hHeld
 obtain ⟨Wb,hW_⟩ : ∃ W_,W_ = Wa.setRow g7 #[.string { data := #[] }] := ⟨_,rfl⟩
 rw [← hW_]
 have q_ := mR #[.string { data := #[] }] HX.out Ng7HX.out
 rw [← hW_] at q_
 replace HX := Aside0.mk q_
 clear q_
 have q_ := mR #[.string { data := #[] }] HN.out Ng7HN.out
 rw [← hW_] at q_
 replace HN := Aside0.mk q_
 clear q_
 have q_ := mR #[.string { data := #[] }] HP.out Ng7HP.out
 rw [← hW_] at q_
 replace HP := Aside0.mk q_
 clear q_
 have q_ := mR #[.string { data := #[] }] H4.out Ng7H4.out
 rw [← hW_] at q_
 replace H4 := Aside0.mk q_
 clear q_
 have q_ := mR #[.string { data := #[] }] H5.out Ng7H5.out
 rw [← hW_] at q_
 replace H5 := Aside0.mk q_
 clear q_
 have q_ : Wb.heap[g7]? = some (.cells #[.string { data := #[] }] 298 (0,0)) := by rw [hW_]; exact setRow_heap _ _ _ _ _ _ HS_.out
 have HSg7 := Aside0.mk q_
 clear q_
 have q_ : Below w.heap.size w Wb := by rw [hW_]; exact below_setRow HB.out G_g7.out _
 replace HB := Aside0.mk q_
 clear q_ hW_ HS_
 have y0 : Wb.cell? ⟨g4,0,none⟩ = some (.int .u64 a) := cL H4 0 rfl
 have y1 : Wb.cell? ⟨g4,1,none⟩ = some (.int .u32 e0) := cL H4 1 rfl
 have y2 : Wb.cell? ⟨g4,2,none⟩ = some (.int .i64 1) := cL H4 2 rfl
 have y3 : Wb.cell? ⟨g4,3,none⟩ = some (.int .u64 ver) := cL H4 3 rfl
 have y4 : Wb.cell? ⟨g4,4,none⟩ = some (.int .u64 d0) := cL H4 4 rfl
 have y5 : Wb.cell? ⟨g4,5,none⟩ = some (.string idA) := cL H4 5 rfl
 have y6 : Wb.cell? ⟨g4,6,none⟩ = some (.string s) := cL H4 6 rfl
 go_upto_region 4 with fail
 clear y0 y1 y2 y3 y4 y5 y6
 refine st_ 9 (fun w' => w'.cell? ⟨ix,1,none⟩ = some (.map (some pm)) ∧ w'.cell? ⟨g5,0,none⟩ = some (.int .i64 sg0) ∧ w'.cell? ⟨g5,1,none⟩ = some (.int .i64 sl0) ∧ w'.cell? ⟨g4,5,none⟩ = some (.string idA)) [8] ⟨(cD HX 1 rfl),(cD H5 0 rfl),(cD H5 1 rfl),(cD H4 5 rfl)⟩ fun hHeld => ?_
 refine with_tabW iadd.tab4 iadd.bits4 (fun HT_ HW_ => ?_)
 replace HX := mD HX
 replace HN := mD HN
 replace HP := mD HP
 replace H4 := mD H4
 replace H5 := mD H5
 replace HB := bD HB
 generalize Wb.drew = wd2 at *
 refine pa_ 0 31 HT_ ?_
 refine pa_ 1 32 HT_ ?_
 refine pa_ 2 33 HT_ ?_
 refine pa_ 5 36 HT_ ?_
 refine ta_ 3 34 HT_ HW_ hHeld ?_
 refine ta_ 4 35 HT_ HW_ hHeld ?_
 refine ta_ 6 37 HT_ HW_ hHeld ?_
 refine pa_ 7 38 HT_ ?_
 refine la_ 8 HT_ fun K hK => ?_
 have hup := HUP.out wd2 HP.out
 refine skip_ (w1 := ?_) (by rfl) rfl ?_ ?_
 rotate_left
 ·go_simp
  rfl
 refine hK.out _ _ ?_
 clear hK K
 refine dn_ HT_ ?_
 clear HT_ HW_ hHeld
 have HKP : Aside0 (Keep [nm,pm] w wd2) := ⟨Keep.below HB.out⟩
 obtain ⟨Wc,hW_⟩ : ∃ W_,W_ = setMap wd2 pm ps' cp' := ⟨_,rfl⟩
 rw [← hW_]
 have q_ := setMap_other (c' := cp') (es' := ps') HX.out ((map_ne HP.out HX.out).symm)
 rw [← hW_] at q_
 replace HX := Aside0.mk q_
 clear q_
 have q_ := setMap_other (c' := cp') (es' := ps') H4.out ((map_ne HP.out H4.out).symm)
 rw [← hW_] at q_
 replace H4 := Aside0.mk q_
 clear q_
 have q_ := setMap_other (c' := cp') (es' := ps') H5.out ((map_ne HP.out H5.out).symm)
 rw [← hW_] at q_
 replace H5 := Aside0.mk q_
 clear q_
 have q_ := setMap_other (c' := cp') (es' := ps') HN.out (HNE.out)
 rw [← hW_] at q_
 replace HN := Aside0.mk q_
 clear q_
 have q_ : Wc.heap[pm]? = some (.map ps' cp') := by rw [hW_]; exact setMap_heap HP.out
 replace HP := Aside0.mk q_
 clear q_
 have q_ : Keep [nm,pm] w Wc := by rw [hW_]; exact (HKP.out.setMap _ _ (.inl (by simp)))
 replace HKP := Aside0.mk q_
 clear q_ hW_
 clear HB
 have HS := Aside0.mk (HKP.out.size)
 have HB := Aside0.mk (Below.refl Wc.heap.size Wc)
 go_upto_region 5 with fail
 refine st_ 13 (fun w' => w'.cell? ⟨ix,0,none⟩ = some (.map (some nm)) ∧ w'.cell? ⟨g4,5,none⟩ = some (.string idA) ∧ (Instr.lookup 229 (.map (some nm)) (.string idA) true).run Tryz.prog w' = .ok (.tuple #[.agg #[.int .u64 v,.int .u64 dl,.bool lv,.int .i64 sz,.int .i64 sg,.int .i64 sl],.bool b]) w') [11] ⟨(cD HX 0 rfl),(cD H4 5 rfl),(HLK.out _ (blk_drew HN.out))⟩ fun hHeld => ?_
 refine with_tabW iadd.tab5 iadd.bits5 (fun HT_ HW_ => ?_)
 replace HX := mD HX
 replace HN := mD HN
 replace HP := mD HP
 replace H4 := mD H4
 replace H5 := mD H5
 replace HB := bD HB
 generalize Wc.drew = wd3 at *
 refine pa_ 0 40 HT_ ?_
 refine pa_ 1 41 HT_ ?_
 refine pa_ 2 42 HT_ ?_
 refine pa_ 4 44 HT_ ?_
 refine ta_ 3 43 HT_ HW_ hHeld ?_
 refine ta_ 5 45 HT_ HW_ hHeld ?_
 refine ta_ 6 46 HT_ HW_ hHeld ?_
 refine pa_ 7 39 HT_ ?_
 refine pa_ 8 47 HT_ ?_
 refine pa_ 9 48 HT_ ?_
 refine on_ 10 HT_ fun K hK => ?_
 refine allocR_ #[.int .u64 0,.int .u64 0,.bool false,.int .i64 0,.int .i64 0,.int .i64 0] 183 (by rfl) rfl (by first | (go_simp; done) | (go_simp; rfl)) ?_
 intro g9 Wd hge hq hb
 have G_g9 : Aside0 (Wc.heap.size ≤ g9) := ⟨by have := HB.out.size; omega⟩
 have HS_ := Aside0.mk hq
 have Ng9HX : Aside0 (ix ≠ g9) := ⟨new_ne HX.out hge⟩
 have Ng9HN : Aside0 (nm ≠ g9) := ⟨new_ne HN.out hge⟩
 have Ng9HP : Aside0 (pm ≠ g9) := ⟨new_ne HP.out hge⟩
 have Ng9H4 : Aside0 (g4 ≠ g9) := ⟨new_ne H4.out hge⟩
 have Ng9H5 : Aside0 (g5 ≠ g9) := ⟨new_ne H5.out hge⟩
 replace HX := mb HX hb
 replace HN := mb HN hb
 replace HP := mb HP hb
 replace H4 := mb H4 hb
 replace H5 := mb H5 hb
 replace HB := mS HB hb
 clear hq hge hb
 refine hK.out _ _ ⟨(cL HX 0 rfl),(cL H4 5 rfl),(HLK.out _ HN.out)⟩ (fun hHeld => ?_)
 clear hK K
 refine no_ 9 ?_
 refine la_ 11 HT_ fun K hK => ?_
 refine sR_ 9 47 #[.int .u64 v,.int .u64 dl,.bool lv,.int .i64 sz,.int .i64 sg,.int .i64 sl] HS_.out ?_
 refine hK.out _ _ ?_
 clear hK K
 refine pa_ 12 10 HT_ ?_
 refine dn_ HT_ ?_
 clear HT_ HW_ hHeld
 obtain ⟨We,hW_⟩ : ∃ W_,W_ = Wd.setRow g9 #[.int .u64 v,.int .u64 dl,.bool lv,.int .i64 sz,.int .i64 sg,.int .i64 sl] := ⟨_,rfl⟩
 rw [← hW_]
 have q_ := mR #[.int .u64 v,.int .u64 dl,.bool lv,.int .i64 sz,.int .i64 sg,.int .i64 sl] HX.out Ng9HX.out
 rw [← hW_] at q_
 replace HX := Aside0.mk q_
 clear q_
 have q_ := mR #[.int .u64 v,.int .u64 dl,.bool lv,.int .i64 sz,.int .i64 sg,.int .i64 sl] HN.out Ng9HN.out
 rw [← hW_] at q_
 replace HN := Aside0.mk q_
 clear q_
 have q_ := mR #[.int .u64 v,.int .u64 dl,.bool lv,.int .i64 sz,.int .i64 sg,.int .i64 sl] HP.out Ng9HP.out
 rw [← hW_] at q_
 replace HP := Aside0.mk q_
 clear q_
 have q_ := mR #[.int .u64 v,.int .u64 dl,.bool lv,.int .i64 sz,.int .i64 sg,.int .i64 sl] H4.out Ng9H4.out
 rw [← hW_] at q_
 replace H4 := Aside0.mk q_
 clear q_
 have q_ := mR #[.int .u64 v,.int .u64 dl,.bool lv,.int .i64 sz,.int .i64 sg,.int .i64 sl] H5.out Ng9H5.out
 rw [← hW_] at q_
 replace H5 := Aside0.mk q_
 clear q_
 have q_ : We.heap[g9]? = some (.cells #[.int .u64 v,.int .u64 dl,.bool lv,.int .i64 sz,.int .i64 sg,.int .i64 sl] 183 (0,0)) := by rw [hW_]; exact setRow_heap _ _ _ _ _ _ HS_.out
 have HSg9 := Aside0.mk q_
 clear q_
 have q_ : Below Wc.heap.size Wc We := by rw [hW_]; exact below_setRow HB.out G_g9.out _
 replace HB := Aside0.mk q_
 clear q_ hW_ HS_
 have y0 : We.cell? ⟨g4,0,none⟩ = some (.int .u64 a) := cL H4 0 rfl
 have y1 : We.cell? ⟨g4,1,none⟩ = some (.int .u32 e0) := cL H4 1 rfl
 have y2 : We.cell? ⟨g4,2,none⟩ = some (.int .i64 1) := cL H4 2 rfl
 have y3 : We.cell? ⟨g4,3,none⟩ = some (.int .u64 ver) := cL H4 3 rfl
 have y4 : We.cell? ⟨g4,4,none⟩ = some (.int .u64 d0) := cL H4 4 rfl
 have y5 : We.cell? ⟨g4,5,none⟩ = some (.string idA) := cL H4 5 rfl
 have y6 : We.cell? ⟨g4,6,none⟩ = some (.string s) := cL H4 6 rfl
 have z0 : We.cell? ⟨g9,0,none⟩ = some (.int .u64 v) := cL HSg9 0 rfl
 have z1 : We.cell? ⟨g9,1,none⟩ = some (.int .u64 dl) := cL HSg9 1 rfl
 have z2 : We.cell? ⟨g9,2,none⟩ = some (.bool lv) := cL HSg9 2 rfl
 have z3 : We.cell? ⟨g9,3,none⟩ = some (.int .i64 sz) := cL HSg9 3 rfl
 have z4 : We.cell? ⟨g9,4,none⟩ = some (.int .i64 sg) := cL HSg9 4 rfl
 have z5 : We.cell? ⟨g9,5,none⟩ = some (.int .i64 sl) := cL HSg9 5 rfl
 cases b
 all_goals
  go_upto_region 8 with fail
  clear y0 y1 y2 y3 y4 y5 y6 z0 z1 z2 z3 z4 z5
  refine st_ 24 (fun w' => w'.cell? ⟨ix,0,none⟩ = some (.map (some nm)) ∧ w'.cell? ⟨g4,2,none⟩ = some (.int .i64 1) ∧ w'.cell? ⟨g4,3,none⟩ = some (.int .u64 ver) ∧ w'.cell? ⟨g4,4,none⟩ = some (.int .u64 d0) ∧ w'.cell? ⟨g4,5,none⟩ = some (.string idA) ∧ w'.cell? ⟨g4,6,none⟩ = some (.string s) ∧ w'.cell? ⟨g5,0,none⟩ = some (.int .i64 sg0) ∧ w'.cell? ⟨g5,1,none⟩ = some (.int .i64 sl0)) [23] ⟨(cD HX 0 rfl),(cD H4 2 rfl),(cD H4 3 rfl),(cD H4 4 rfl),(cD H4 5 rfl),(cD H4 6 rfl),(cD H5 0 rfl),(cD H5 1 rfl)⟩ fun hHeld => ?_
  refine with_tabW iadd.tab8 iadd.bits8 (fun HT_ HW_ => ?_)
  replace HX := mD HX
  replace HN := mD HN
  replace HP := mD HP
  replace H4 := mD H4
  replace H5 := mD H5
  replace HB := bD HB
  generalize We.drew = wd4 at *
  refine pa_ 0 57 HT_ ?_
  refine pa_ 1 58 HT_ ?_
  refine pa_ 2 59 HT_ ?_
  refine pa_ 4 61 HT_ ?_
  refine pa_ 6 63 HT_ ?_
  refine pa_ 8 65 HT_ ?_
  refine pa_ 10 67 HT_ ?_
  refine pa_ 13 70 HT_ ?_
  refine pa_ 17 74 HT_ ?_
  refine ta_ 3 60 HT_ HW_ hHeld ?_
  refine ta_ 5 62 HT_ HW_ hHeld ?_
  refine ta_ 7 64 HT_ HW_ hHeld ?_
  refine ta_ 9 66 HT_ HW_ hHeld ?_
  refine ta_ 11 68 HT_ HW_ hHeld ?_
  refine pa_ 12 69 HT_ ?_
  refine ta_ 14 71 HT_ HW_ hHeld ?_
  refine pa_ 15 72 HT_ ?_
  refine pa_ 16 73 HT_ ?_
  refine ta_ 18 75 HT_ HW_ hHeld ?_
  refine pa_ 19 76 HT_ ?_
  refine pa_ 20 77 HT_ ?_
  refine ta_ 21 78 HT_ HW_ hHeld ?_
  refine pa_ 22 79 HT_ ?_
  refine la_ 23 HT_ fun K hK => ?_
  have hup := fun z => HUN.out z wd4 HN.out
  refine skip_ (w1 := ?_) (by rfl) rfl ?_ ?_
  rotate_left
  ·go_simp
   rfl
  refine hK.out _ _ ?_
  clear hK K
  refine dn_ HT_ ?_
  clear HT_ HW_ hHeld
  go_wp2_with fail
  go_ret
  exact ⟨rfl,_,setMap_heap HN.out,setMap_other HP.out HNE.out.symm,(HKP.out.trans (Keep.below HB.out)).setMap _ _ (.inl (by simp))⟩
end Go.Proofs.YtokfjbbjkiilmaaGreatDoor.H
