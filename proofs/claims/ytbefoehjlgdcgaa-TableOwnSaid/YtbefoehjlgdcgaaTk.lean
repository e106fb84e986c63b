/-
The contracts of the functions that take a table.
-/
import Derived.Test.YtbefoehjlgdcgaaTb
namespace Go.Proofs.Ytbefoehjlgdcgaa.H
open Go.RowKit Go.Proofs.YtbefoehjlgdcgaaW.PrintWords Go.Proofs.YtbefoehjlgdcgaaW.PrintLast Go.Proofs.YtbefoehjlgdcgaaW.PrintMore
attribute [local go_sem] min2_int min_two
set_option linter.unusedVariables false
set_option linter.unusedSimpArgs false
theorem last_calls (g s : Int) (Ao : Option Addr) (co : Nat) (o : List Int) (Al : Option Addr) (cl : Nat) (l : List Int) (Af : Option Addr) (cf : Nat) (f : List Int) (w : World) (hT : TC w Ao co o Al cl l Af cf f) (r : Int) (h : table_Table_last.f g s o l f = some r) :
  Calls Try.prog 41 #[.agg #[.int .i64 g,.int .i64 s,.slice Ao o.length co,.slice Al l.length cl,.slice Af f.length cf]] w fun e w' => e = .returned (.int .i64 r) ∧ Below w.heap.size w w' :=
 table_Table_last.calls g s Ao co o Al cl l Af cf f r w hT.1.1 hT.1.2 hT.2.1.1 hT.2.1.2 hT.2.2.1 hT.2.2.2 h
theorem In_calls (k : Nat) (g s : Int) (Ao : Option Addr) (co : Nat) (o : List Int) (Al : Option Addr) (cl : Nat) (l : List Int) (Af : Option Addr) (cf : Nat) (f : List Int) (x : Int) (w : World) (hT : TC w Ao co o Al cl l Af cf f) (r : Int) (h : lodgerref08_In.f k g s o l f x = some r) :
  Calls Try.prog 35 #[.agg #[.int .i64 g,.int .i64 s,.slice Ao o.length co,.slice Al l.length cl,.slice Af f.length cf],.int .i64 x] w fun e w' => e = .returned (.int .i64 r) ∧ Below w.heap.size w w' :=
 lodgerref08_In.calls k g s Ao co o Al cl l Af cf f x r w hT.1.1 hT.1.2 hT.2.1.1 hT.2.1.2 hT.2.2.1 hT.2.2.2 h
theorem room_calls (g s : Int) (Ao : Option Addr) (co : Nat) (o : List Int) (Al : Option Addr) (cl : Nat) (l : List Int) (Af : Option Addr) (cf : Nat) (f : List Int) (w : World) (hT : TC w Ao co o Al cl l Af cf f) (r : Int) (h : table_Room.f g s o l f = some r) :
  Calls Try.prog 19 #[.agg #[.int .i64 g,.int .i64 s,.slice Ao o.length co,.slice Al l.length cl,.slice Af f.length cf]] w fun e w' => e = .returned (.int .i64 r) ∧ Below w.heap.size w w' :=
 table_Room.calls g s Ao co o Al cl l Af cf f r w hT.1.1 hT.1.2 hT.2.1.1 hT.2.1.2 hT.2.2.1 hT.2.2.2 h
theorem used_calls (k : Nat) (g s : Int) (Ao : Option Addr) (co : Nat) (o : List Int) (Al : Option Addr) (cl : Nat) (l : List Int) (Af : Option Addr) (cf : Nat) (f : List Int) (w : World) (hT : TC w Ao co o Al cl l Af cf f) (r : Int) (h : table_Used.f k g s o l f = some r) :
  Calls Try.prog 21 #[.agg #[.int .i64 g,.int .i64 s,.slice Ao o.length co,.slice Al l.length cl,.slice Af f.length cf]] w fun e w' => e = .returned (.int .i64 r) ∧ Below w.heap.size w w' :=
 table_Used.calls k g s Ao co o Al cl l Af cf f r w hT.1.1 hT.1.2 hT.2.1.1 hT.2.1.2 hT.2.2.1 hT.2.2.2 h
theorem len_calls (k : Nat) (g s : Int) (Ao : Option Addr) (co : Nat) (o : List Int) (Al : Option Addr) (cl : Nat) (l : List Int) (Af : Option Addr) (cf : Nat) (f : List Int) (x : Int) (w : World) (hT : TC w Ao co o Al cl l Af cf f) (r : Int) (h : table_Len.f k g s o l f x = some r) :
  Calls Try.prog 23 #[.agg #[.int .i64 g,.int .i64 s,.slice Ao o.length co,.slice Al l.length cl,.slice Af f.length cf],.int .i64 x] w fun e w' => e = .returned (.int .i64 r) ∧ Below w.heap.size w w' :=
 table_Len.calls k g s Ao co o Al cl l Af cf f x r w hT.1.1 hT.1.2 hT.2.1.1 hT.2.1.2 hT.2.2.1 hT.2.2.2 h
end Go.Proofs.Ytbefoehjlgdcgaa.H
