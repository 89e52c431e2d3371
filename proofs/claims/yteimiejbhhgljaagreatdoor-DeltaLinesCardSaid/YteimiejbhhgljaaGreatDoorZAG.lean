import Derived.Test.YteimiejbhhgljaaGreatDoorZAF
import Derived.Test.YteimiejbhhgljaaGreatDoorProg
import Derived.KernelRfl
import Derived.Laws.Bits64
import Derived.Shelf.SlGeneric
import Derived.Shelf.SlLaysF0
import Derived.Ground.SlsfProg
import Derived.Shelf.SlSortCmp.WholeK
import Derived.WalkKit
import Derived.Shelf.SlSortCmp.NoneTotal
import Derived.RangeFuncRecord
import Derived.TacticsIn
import Derived.BigFrameIn
import Derived.Lib.AppendZerosOnto
import Derived.Lib.Overlaps
import Derived.ChangeArms
import Derived.DataReads
import Derived.Carry
import Derived.ProofKit
import Derived.LaidMore
import Derived.OpenShut
import Derived.Stop.Joined
import Derived.Lib.LaidTab
import Derived.Maps.Keyed
set_option linter.unusedVariables false
set_option linter.unusedSimpArgs false
section
namespace Go.AM
open Go.Proofs
set_option maxRecDepth 100000
@[go_sem] theorem yC0 : callable Tryz.prog 13 = true ∧ arr Tryz.prog 36 = none ∧ tagg Tryz.prog 36 = some true ∧ tsz Tryz.prog 36 = some 6 ∧ callable Tryz.prog 14 = true ∧ zcells Tryz.prog 45 = some [AVal.lit (Value.slice none 0 0), AVal.lit (Value.slice none 0 0), AVal.lit (Value.slice none 0 0), AVal.lit (Value.slice none 0 0), AVal.lit (Value.slice none 0 0), AVal.lit (Value.slice none 0 0)] ∧ arr Tryz.prog 45 = none ∧ tsz Tryz.prog 45 = some 6 ∧ tagg Tryz.prog 45 = some true ∧ callable Tryz.prog 19 = true ∧ zcells Tryz.prog 36 = some [AVal.lit (Value.slice none 0 0), AVal.lit (Value.slice none 0 0), AVal.lit (Value.slice none 0 0), AVal.lit (Value.slice none 0 0), AVal.lit (Value.slice none 0 0), AVal.lit (Value.slice none 0 0)] ∧ isSliceT Tryz.prog 37 = true ∧ esz Tryz.prog 37 = some 1 ∧ arr Tryz.prog 37 = none ∧ tagg Tryz.prog 9 = some false ∧ tsz Tryz.prog 9 = some 1 ∧ isStructT Tryz.prog 36 = true ∧ isStrT Tryz.prog 9 = true ∧ arr Tryz.prog 9 = none ∧ ikind Tryz.prog 5 = some IntKind.u8 ∧ ikind Tryz.prog 3 = some IntKind.i64 ∧ isStrT Tryz.prog 3 = false ∧ tagg Tryz.prog 26 = some false ∧ tsz Tryz.prog 26 = some 1 ∧ isSliceT Tryz.prog 26 = true := by and_intros <;> kernel_rfl
@[go_sem] theorem yC1 : callable Tryz.prog 23 = true ∧ callable Tryz.prog 26 = true ∧ fieldOff Tryz.prog 36 0 = some 0 ∧ tagg Tryz.prog 33 = some false ∧ tsz Tryz.prog 33 = some 1 ∧ isSliceT Tryz.prog 33 = true ∧ fieldOff Tryz.prog 36 5 = some 5 ∧ tagg Tryz.prog 34 = some false ∧ tsz Tryz.prog 34 = some 1 ∧ isSliceT Tryz.prog 34 = true ∧ callable Tryz.prog 27 = true ∧ callable Tryz.prog 28 = true ∧ esz Tryz.prog 26 = some 1 ∧ tsz Tryz.prog 3 = some 1 ∧ zcells Tryz.prog 87 = some [AVal.lit (Value.int IntKind.i64 0), AVal.lit (Value.int IntKind.i64 0)] ∧ isStructT Tryz.prog 87 = true ∧ tagg Tryz.prog 3 = some false ∧ tagg Tryz.prog 22 = some false ∧ tsz Tryz.prog 22 = some 1 ∧ zcells Tryz.prog 89 = some [AVal.lit (Value.int IntKind.i64 0), AVal.lit (Value.int IntKind.i64 0), AVal.lit (Value.int IntKind.i64 0), AVal.lit (Value.int IntKind.i64 0), AVal.lit (Value.int IntKind.u64 0), AVal.lit (Value.bool false), AVal.lit (Value.int IntKind.u64 0), AVal.lit (Value.int IntKind.u32 0)] ∧ isStructT Tryz.prog 89 = true ∧ zcells Tryz.prog 93 = some [AVal.lit (Value.int IntKind.i64 0), AVal.lit (Value.int IntKind.i64 0), AVal.lit (Value.int IntKind.u64 0), AVal.lit (Value.int IntKind.u32 0), AVal.lit (Value.int IntKind.u64 0)] ∧ isStructT Tryz.prog 93 = true ∧ callable Tryz.prog 38 = true ∧ fieldOff Tryz.prog 45 0 = some 0 := by and_intros <;> kernel_rfl
@[go_sem] theorem yC2 : tagg Tryz.prog 42 = some false ∧ tsz Tryz.prog 42 = some 1 ∧ isSliceT Tryz.prog 42 = true ∧ fieldOff Tryz.prog 45 1 = some 1 ∧ fieldOff Tryz.prog 45 2 = some 2 ∧ fieldOff Tryz.prog 45 3 = some 3 ∧ fieldOff Tryz.prog 45 4 = some 4 ∧ tagg Tryz.prog 27 = some false ∧ tsz Tryz.prog 27 = some 1 ∧ isSliceT Tryz.prog 27 = true ∧ fieldOff Tryz.prog 45 5 = some 5 ∧ tagg Tryz.prog 43 = some false ∧ tsz Tryz.prog 43 = some 1 ∧ isSliceT Tryz.prog 43 = true ∧ callable Tryz.prog 39 = true ∧ fieldOff Tryz.prog 36 4 = some 4 ∧ callable Tryz.prog 40 = true ∧ callable Tryz.prog 42 = true ∧ callable Tryz.prog 41 = true ∧ callable Tryz.prog 43 = true ∧ callable Tryz.prog 44 = true ∧ fieldOff Tryz.prog 91 2 = some 2 ∧ isStructT Tryz.prog 45 = true ∧ zcells Tryz.prog 118 = some [AVal.lit (Value.int IntKind.i64 0), AVal.lit (Value.int IntKind.i64 0)] ∧ isStructT Tryz.prog 118 = true := by and_intros <;> kernel_rfl
@[go_sem] theorem yC3 : zcells Tryz.prog 119 = some [AVal.lit (Value.int IntKind.i64 0), AVal.lit (Value.int IntKind.i64 0), AVal.lit (Value.int IntKind.u64 0), AVal.lit (Value.int IntKind.u32 0), AVal.lit (Value.int IntKind.u64 0)] ∧ isStructT Tryz.prog 119 = true ∧ esz Tryz.prog 27 = some 8 ∧ fieldOff Tryz.prog 89 0 = some 0 ∧ arr Tryz.prog 89 = none ∧ tsz Tryz.prog 89 = some 8 ∧ tagg Tryz.prog 89 = some true ∧ eqOffs Tryz.prog 89 = some [(0, 0), (1, 0), (2, 0), (3, 0), (4, 0), (5, 1), (6, 0), (7, 0)] ∧ fieldOff Tryz.prog 36 1 = some 1 ∧ fieldOff Tryz.prog 36 2 = some 2 ∧ fieldOff Tryz.prog 36 3 = some 3 ∧ zcells Tryz.prog 91 = some [AVal.lit (Value.int IntKind.u64 0), AVal.lit (Value.int IntKind.u32 0), AVal.lit (Value.int IntKind.u64 0)] ∧ isStructT Tryz.prog 91 = true ∧ esz Tryz.prog 42 = some 2 ∧ tagg Tryz.prog 118 = some true ∧ tsz Tryz.prog 118 = some 2 ∧ arr Tryz.prog 118 = none ∧ esz Tryz.prog 43 = some 5 ∧ tagg Tryz.prog 119 = some true ∧ tsz Tryz.prog 119 = some 5 ∧ arr Tryz.prog 119 = none ∧ esz Tryz.prog 33 = some 2 ∧ tagg Tryz.prog 87 = some true ∧ tsz Tryz.prog 87 = some 2 ∧ arr Tryz.prog 87 = none := by and_intros <;> kernel_rfl
@[go_sem] theorem yC4 : fieldOff Tryz.prog 87 0 = some 0 ∧ fieldOff Tryz.prog 87 1 = some 1 ∧ esz Tryz.prog 34 = some 5 ∧ tagg Tryz.prog 93 = some true ∧ tsz Tryz.prog 93 = some 5 ∧ arr Tryz.prog 93 = none ∧ fieldOff Tryz.prog 93 0 = some 0 ∧ fieldOff Tryz.prog 93 1 = some 1 ∧ fieldOff Tryz.prog 93 2 = some 2 ∧ callable Tryz.prog 71 = true ∧ callable Tryz.prog 72 = true ∧ callable Tryz.prog 73 = true ∧ callable Tryz.prog 74 = true ∧ fieldOff Tryz.prog 89 5 = some 5 ∧ tagg Tryz.prog 4 = some false ∧ tsz Tryz.prog 4 = some 1 ∧ fieldOff Tryz.prog 89 3 = some 3 ∧ callable Tryz.prog 83 = true ∧ callable Tryz.prog 84 = true ∧ callable Tryz.prog 85 = true ∧ tagg Tryz.prog 50 = some false ∧ tsz Tryz.prog 50 = some 1 ∧ ikind Tryz.prog 50 = some IntKind.u32 ∧ ikind Tryz.prog 22 = some IntKind.u64 ∧ isStrT Tryz.prog 22 = false := by and_intros <;> kernel_rfl
@[go_sem] theorem yC5 : callable Tryz.prog 100 = true ∧ callable Tryz.prog 101 = true ∧ ezero Tryz.prog 169 = some (1, 24, [AVal.lit (Value.slice none 0 0)]) ∧ isSliceT Tryz.prog 169 = true ∧ esz Tryz.prog 169 = some 1 ∧ fieldOff Tryz.prog 118 0 = some 0 ∧ fieldOff Tryz.prog 118 1 = some 1 ∧ ezero Tryz.prog 171 = some (1, 8, [AVal.lit (Value.int IntKind.u64 0)]) ∧ callable Tryz.prog 102 = true ∧ fieldOff Tryz.prog 89 1 = some 1 ∧ fieldOff Tryz.prog 89 2 = some 2 ∧ fieldOff Tryz.prog 89 4 = some 4 ∧ callable Tryz.prog 103 = true ∧ fieldOff Tryz.prog 89 6 = some 6 ∧ fieldOff Tryz.prog 89 7 = some 7 ∧ fieldOff Tryz.prog 119 0 = some 0 ∧ fieldOff Tryz.prog 119 1 = some 1 ∧ fieldOff Tryz.prog 119 2 = some 2 ∧ fieldOff Tryz.prog 91 0 = some 0 ∧ fieldOff Tryz.prog 91 1 = some 1 ∧ callable Tryz.prog 104 = true ∧ eqOffs Tryz.prog 87 = some [(0, 0), (1, 0)] ∧ callable Tryz.prog 144 = true ∧ zcells Tryz.prog 37 = some [AVal.lit (Value.slice none 0 0)] ∧ callable Tryz.prog 145 = true := by and_intros <;> kernel_rfl
@[go_sem] theorem yC6 : zcells Tryz.prog 212 = some [AVal.lit (Value.slice none 0 0), AVal.lit (Value.slice none 0 0), AVal.lit (Value.slice none 0 0)] ∧ isStructT Tryz.prog 212 = false ∧ arrE Tryz.prog 212 = some (3, 1, false) ∧ isStructT Tryz.prog 214 = false ∧ arrE Tryz.prog 214 = some (3, 1, false) ∧ callable Tryz.prog 146 = true ∧ callable Tryz.prog 147 = true ∧ callable Tryz.prog 148 = true ∧ tagg Tryz.prog 37 = some false ∧ tsz Tryz.prog 37 = some 1 ∧ callable Tryz.prog 149 = true ∧ callable Tryz.prog 151 = true ∧ callable Tryz.prog 153 = true ∧ isStrT Tryz.prog 50 = false ∧ callable Tryz.prog 154 = true ∧ callable Tryz.prog 155 = true ∧ isStrT Tryz.prog 5 = false ∧ ezero Tryz.prog 238 = some (1, 1, [AVal.lit (Value.int IntKind.u8 0)]) ∧ ikind Tryz.prog 9 = none ∧ isSliceT Tryz.prog 171 = true ∧ esz Tryz.prog 171 = some 1 ∧ callable Tryz.prog 174 = true ∧ callable Tryz.prog 175 = true ∧ zcells Tryz.prog 239 = some [AVal.lit (Value.bool false), AVal.lit (Value.bool false), AVal.lit (Value.bool false), AVal.lit (Value.bool false), AVal.lit (Value.bool false), AVal.lit (Value.bool false), AVal.lit (Value.bool false), AVal.lit (Value.bool false), AVal.lit (Value.bool false), AVal.lit (Value.bool false), AVal.lit (Value.bool false), AVal.lit (Value.bool false), AVal.lit (Value.bool false), AVal.lit (Value.bool false), AVal.lit (Value.bool false), AVal.lit (Value.bool false), AVal.lit (Value.bool false), AVal.lit (Value.bool false), AVal.lit (Value.bool false), AVal.lit (Value.bool false), AVal.lit (Value.bool false), AVal.lit (Value.bool false), AVal.lit (Value.bool false), AVal.lit (Value.bool false), AVal.lit (Value.bool false), AVal.lit (Value.bool false), AVal.lit (Value.bool false), AVal.lit (Value.bool false), AVal.lit (Value.bool false), AVal.lit (Value.bool false), AVal.lit (Value.bool false), AVal.lit (Value.bool false), AVal.lit (Value.bool false), AVal.lit (Value.bool false), AVal.lit (Value.bool false), AVal.lit (Value.bool false), AVal.lit (Value.bool false), AVal.lit (Value.bool false), AVal.lit (Value.bool false), AVal.lit (Value.bool false), AVal.lit (Value.bool false), AVal.lit (Value.bool false), AVal.lit (Value.bool false), AVal.lit (Value.bool false), AVal.lit (Value.bool false), AVal.lit (Value.bool false), AVal.lit (Value.bool false), AVal.lit (Value.bool false), AVal.lit (Value.bool false), AVal.lit (Value.bool false), AVal.lit (Value.bool false), AVal.lit (Value.bool false), AVal.lit (Value.bool false), AVal.lit (Value.bool false), AVal.lit (Value.bool false), AVal.lit (Value.bool false), AVal.lit (Value.bool false), AVal.lit (Value.bool false), AVal.lit (Value.bool false), AVal.lit (Value.bool false), AVal.lit (Value.bool false), AVal.lit (Value.bool false), AVal.lit (Value.bool false), AVal.lit (Value.bool false)] ∧ arr Tryz.prog 239 = some (64, 1) := by and_intros <;> kernel_rfl
@[go_sem] theorem yC7 : tsz Tryz.prog 239 = some 64 ∧ callable Tryz.prog 176 = true ∧ callable Tryz.prog 177 = true ∧ ezero Tryz.prog 243 = some (1, 24, [AVal.lit (Value.slice none 0 0)]) ∧ esz Tryz.prog 243 = some 1 ∧ tagg Tryz.prog 171 = some false ∧ tsz Tryz.prog 171 = some 1 ∧ callable Tryz.prog 178 = true ∧ callable Tryz.prog 179 = true ∧ callable Tryz.prog 216 = true ∧ callable Tryz.prog 217 = true ∧ callable Tryz.prog 218 = true ∧ callable Tryz.prog 219 = true ∧ callable Tryz.prog 150 = true ∧ callable Tryz.prog 152 = true ∧ callable Tryz.prog 223 = true ∧ callable Tryz.prog 224 = true ∧ callable Tryz.prog 225 = true ∧ ikind Tryz.prog 21 = some IntKind.i32 ∧ isStrT Tryz.prog 21 = false ∧ tagg Tryz.prog 239 = some true ∧ callable Tryz.prog 233 = true ∧ callable Tryz.prog 234 = true ∧ Tryz.f19.results.toList = [.cell 2 36] ∧ Tryz.f28.results.toList = [.cell 2 36, .tmp 3, .tmp 4] := by and_intros <;> kernel_rfl
@[go_sem] theorem yC8 : Tryz.f42.results.toList = [.cell 2 45] ∧ Tryz.f43.results.toList = [.cell 2 45, .tmp 3, .tmp 4] ∧ Tryz.f85.results.toList = [.cell 2 36, .tmp 3, .tmp 4] ∧ Tryz.f104.results.toList = [.cell 2 45, .tmp 3] ∧ Tryz.f175.results.toList = [.cell 2 239] := by and_intros <;> kernel_rfl
@[go_sem] theorem y1 : ezero Tryz.prog 37 = some (1, 16, [AVal.lit (Value.string { data := { toList := [] } })]) := by kernel_rfl
@[go_sem] theorem ap_37 {H0 : Heap} {k id : Nat} {l : List (List AVal)} {y : Option AVal} (hin : accIn H0 id 1 l) (hid : id < k) : aAppend Tryz.prog (AM.look H0) k 37 (some (accV id l)) y = appR 1 16 k id l (y.bind (aSrc (AM.look H0))) := app_acc y1 hin hid
@[go_sem] theorem y2 : placesOf Tryz.prog 36 = some { toList := [(0, 1), (1, 1), (2, 1), (3, 1), (4, 1), (5, 1)] } := by kernel_rfl
@[go_sem] theorem y3 : placesOf Tryz.prog 87 = some { toList := [(0, 1), (1, 1)] } := by kernel_rfl
@[go_sem] theorem y4 : ezero Tryz.prog 33 = some (2, 16, [AVal.lit (Value.int IntKind.i64 0), AVal.lit (Value.int IntKind.i64 0)]) := by kernel_rfl
@[go_sem] theorem ap_33 {H0 : Heap} {k id : Nat} {l : List (List AVal)} {y : Option AVal} (hin : accIn H0 id 2 l) (hid : id < k) : aAppend Tryz.prog (AM.look H0) k 33 (some (accV id l)) y = appR 2 16 k id l (y.bind (aSrc (AM.look H0))) := app_acc y4 hin hid
@[go_sem] theorem y5 : ezero Tryz.prog 26 = some (1, 8, [AVal.lit (Value.int IntKind.i64 0)]) := by kernel_rfl
@[go_sem] theorem ap_26 {H0 : Heap} {k id : Nat} {l : List (List AVal)} {y : Option AVal} (hin : accIn H0 id 1 l) (hid : id < k) : aAppend Tryz.prog (AM.look H0) k 26 (some (accV id l)) y = appR 1 8 k id l (y.bind (aSrc (AM.look H0))) := app_acc y5 hin hid
@[go_sem] theorem y6 : placesOf Tryz.prog 89 = some { toList := [(0, 1), (1, 1), (2, 1), (3, 1), (4, 1), (5, 1), (6, 1), (7, 1)] } := by kernel_rfl
@[go_sem] theorem y7 : ezero Tryz.prog 27 = some (8, 64, [AVal.lit (Value.int IntKind.i64 0), AVal.lit (Value.int IntKind.i64 0), AVal.lit (Value.int IntKind.i64 0), AVal.lit (Value.int IntKind.i64 0), AVal.lit (Value.int IntKind.u64 0), AVal.lit (Value.bool false), AVal.lit (Value.int IntKind.u64 0), AVal.lit (Value.int IntKind.u32 0)]) := by kernel_rfl
@[go_sem] theorem ap_27 {H0 : Heap} {k id : Nat} {l : List (List AVal)} {y : Option AVal} (hin : accIn H0 id 8 l) (hid : id < k) : aAppend Tryz.prog (AM.look H0) k 27 (some (accV id l)) y = appR 8 64 k id l (y.bind (aSrc (AM.look H0))) := app_acc y7 hin hid
@[go_sem] theorem y8 : placesOf Tryz.prog 93 = some { toList := [(0, 1), (1, 1), (2, 3)] } := by kernel_rfl
@[go_sem] theorem y9 : ezero Tryz.prog 34 = some (5, 40, [AVal.lit (Value.int IntKind.i64 0), AVal.lit (Value.int IntKind.i64 0), AVal.lit (Value.int IntKind.u64 0), AVal.lit (Value.int IntKind.u32 0), AVal.lit (Value.int IntKind.u64 0)]) := by kernel_rfl
@[go_sem] theorem ap_34 {H0 : Heap} {k id : Nat} {l : List (List AVal)} {y : Option AVal} (hin : accIn H0 id 5 l) (hid : id < k) : aAppend Tryz.prog (AM.look H0) k 34 (some (accV id l)) y = appR 5 40 k id l (y.bind (aSrc (AM.look H0))) := app_acc y9 hin hid
@[go_sem] theorem y10 : placesOf Tryz.prog 45 = some { toList := [(0, 1), (1, 1), (2, 1), (3, 1), (4, 1), (5, 1)] } := by kernel_rfl
@[go_sem] theorem y11 : placesOf Tryz.prog 118 = some { toList := [(0, 1), (1, 1)] } := by kernel_rfl
@[go_sem] theorem y12 : ezero Tryz.prog 42 = some (2, 16, [AVal.lit (Value.int IntKind.i64 0), AVal.lit (Value.int IntKind.i64 0)]) := by kernel_rfl
@[go_sem] theorem ap_42 {H0 : Heap} {k id : Nat} {l : List (List AVal)} {y : Option AVal} (hin : accIn H0 id 2 l) (hid : id < k) : aAppend Tryz.prog (AM.look H0) k 42 (some (accV id l)) y = appR 2 16 k id l (y.bind (aSrc (AM.look H0))) := app_acc y12 hin hid
@[go_sem] theorem y13 : placesOf Tryz.prog 119 = some { toList := [(0, 1), (1, 1), (2, 3)] } := by kernel_rfl
@[go_sem] theorem y14 : ezero Tryz.prog 43 = some (5, 40, [AVal.lit (Value.int IntKind.i64 0), AVal.lit (Value.int IntKind.i64 0), AVal.lit (Value.int IntKind.u64 0), AVal.lit (Value.int IntKind.u32 0), AVal.lit (Value.int IntKind.u64 0)]) := by kernel_rfl
@[go_sem] theorem ap_43 {H0 : Heap} {k id : Nat} {l : List (List AVal)} {y : Option AVal} (hin : accIn H0 id 5 l) (hid : id < k) : aAppend Tryz.prog (AM.look H0) k 43 (some (accV id l)) y = appR 5 40 k id l (y.bind (aSrc (AM.look H0))) := app_acc y14 hin hid
@[go_sem] theorem y15 : placesOf Tryz.prog 91 = some { toList := [(0, 1), (1, 1), (2, 1)] } := by kernel_rfl
@[go_sem] theorem y16 : zcells Tryz.prog 214 = some [AVal.lit (Value.string { data := { toList := [] } }), AVal.lit (Value.string { data := { toList := [] } }), AVal.lit (Value.string { data := { toList := [] } })] := by kernel_rfl
@[go_sem] theorem y17 : zcells Tryz.prog 9 = some [AVal.lit (Value.string { data := { toList := [] } })] := by kernel_rfl
end Go.AM
end
section
namespace Go.Proofs.T
open Go Go.AM Go.Proofs
variable {Γ : List (Nat × List AVal)}
structure Tk where
  id : Int
  group : Int
  weight : Int
  cpu : Int
  mask : Int
  ready : Bool
  v : Int
  r : Int
structure Sp where
  v : Int
  r : Int
  floor : Int
structure St where
  cpus : Int
  credit : Int
  ng : Nat
  par : Nat → Int
  wt : Nat → Int
  nk : Nat
  clk : Nat → Int
  nu : Nat
  cur : Nat → Int
  nt : Nat
  tsk : Nat → Tk
  ns : Nat
  nsp : Nat → Nat
  sp : Nat → Nat → Sp
structure Flt where
  r : Int
  a : Int
  b : Int
deriving DecidableEq
abbrev i64 (n : Int) : AVal := .lit (.int .i64 n)
abbrev u64 (n : Int) : AVal := .lit (.int .u64 n)
abbrev u32 (n : Int) : AVal := .lit (.int .u32 n)
def Flt.row (f : Flt) : List AVal := [.lit (.int .u8 f.r), .lit (.int .i64 f.a), .lit (.int .i64 f.b)]
theorem wkU {kb k : Nat} {fr : Fr} {H : Heap} {k1 : Nat} {fr1 : Fr} {H1 : Heap} (hb : kb ≤ k1 := by omega) (hf : leF fr fr1 := by simp -dsimp -implicitDefEqProofs only [go_sem, uU, List.map_append, Flt.row, eq_self, ↓reduceIte]) (hH : leH H H1 := by simp -dsimp -implicitDefEqProofs only [go_sem, uU, List.map_append, Flt.row, eq_self, ↓reduceIte]) (h : bdF (ltB k1) fr1 = true := by simp -dsimp -implicitDefEqProofs only [go_sem, uU, List.map_append, Flt.row, eq_self, ↓reduceIte]) (h' : bdH (ltB k1) H1 = true := by simp -dsimp -implicitDefEqProofs only [go_sem, uU, List.map_append, Flt.row, eq_self, ↓reduceIte]) : Mv kb k fr H k1 fr1 H1 := Mv.wk (wk_low hb hf hH h h')
theorem wkF {kb k : Nat} {fr : Fr} {H : Heap} {k1 : Nat} {fr1 : Fr} {H1 : Heap} (hb : kb ≤ k1 := by omega) (hf : leF fr fr1 := by simp -dsimp -implicitDefEqProofs only [go_sem, List.map_append, Flt.row, eq_self, ↓reduceIte]) (hH : leH H H1 := by simp -dsimp -implicitDefEqProofs only [go_sem, List.map_append, Flt.row, eq_self, ↓reduceIte]) (h : bdF (ltB k1) fr1 = true := by simp -dsimp -implicitDefEqProofs only [go_sem, List.map_append, Flt.row, eq_self, ↓reduceIte]) (h' : bdH (ltB k1) H1 = true := by simp -dsimp -implicitDefEqProofs only [go_sem, List.map_append, Flt.row, eq_self, ↓reduceIte]) : Mv kb k fr H k1 fr1 H1 :=
  Mv.wk (wk_low hb hf hH h h')
def gf (s : St) (i : Nat) : List AVal := [.lit (.int .i64 (s.par i)), .lit (.int .i64 (s.wt i))]
def kf (s : St) (i : Nat) : List AVal := [.lit (.int .i64 (s.clk i))]
def uf (s : St) (i : Nat) : List AVal := [.lit (.int .i64 (s.cur i))]
def tf (s : St) (i : Nat) : List AVal := [.lit (.int .i64 (s.tsk i).id), .lit (.int .i64 (s.tsk i).group), .lit (.int .i64 (s.tsk i).weight), .lit (.int .i64 (s.tsk i).cpu), .lit (.int .u64 (s.tsk i).mask), .lit (.bool (s.tsk i).ready), .lit (.int .u64 (s.tsk i).v), .lit (.int .u32 (s.tsk i).r)]
def sf (s : St) (g c : Nat) : List AVal := [.lit (.int .u64 (s.sp g c).v), .lit (.int .u32 (s.sp g c).r), .lit (.int .u64 (s.sp g c).floor)]
def ssf (s : St) (g : Nat) : List AVal := [.rd 3 (s.nsp g) (sf s g)]
def St.cells (s : St) : List AVal := [.lit (.int .i64 s.cpus), .lit (.int .u64 s.credit), .rd 2 s.ng (gf s), .rd 1 s.nk (kf s), .rd 1 s.nu (uf s), .rd 8 s.nt (tf s), .rd 1 s.ns (ssf s)]
attribute [go_sem] gf kf uf tf sf ssf St.cells
set_option maxRecDepth 20000
end Go.Proofs.T
end
section
namespace Go.Proofs.T
open Go Go.AM Go.Proofs
set_option maxRecDepth 20000
variable {Γ : List (Nat × List AVal)}
def anyB (f : Nat → Bool) : Nat → Bool
  | 0 => false
  | n + 1 => anyB f n || f n
theorem anyB_true {f : Nat → Bool} {i : Nat} (h : f i = true) : ∀ {n : Nat}, i < n → anyB f n = true
  | 0, hn => absurd hn (by omega)
  | n + 1, hn => by
    simp only [anyB, Bool.or_eq_true]
    by_cases he : i = n
    · subst he; exact .inr h
    · exact .inl (anyB_true h (by omega))
end Go.Proofs.T
end
section
namespace Go.Proofs.T
open Go Go.AM Go.Proofs
set_option maxRecDepth 20000
variable {Γ : List (Nat × List AVal)}
def f0 (f : Nat → Bool) : Nat → Option Nat
  | 0 => none
  | n + 1 => match f0 f n with
    | some i => some i
    | none => if f n = true then some n else none
def idx (f : Nat → Bool) (n : Nat) : Int := match f0 f n with | some i => (i : Int) | none => -1
end Go.Proofs.T
end
section
namespace Go.Proofs.T
open Go Go.AM Go.Proofs
set_option maxRecDepth 20000
variable {Γ : List (Nat × List AVal)}
def onB (s : St) (i : Nat) : Bool := decide (0 ≤ (s.tsk i).cpu ∧ (s.tsk i).cpu < s.cpus)
def max0 (x : Int) : Int := if 0 > x then 0 else x
def shr (m c : Int) : Int := m.fdiv (2 ^ min c.toNat 64)
def and1 (m : Int) : Int := IntKind.u64.wrap (BitVec.ofInt IntKind.u64.bits m &&& BitVec.ofInt IntKind.u64.bits 1).toNat
def t4 (s : St) (i : Nat) : Bool := decide (0 < (i : Int)) && decide ((s.tsk i).id ≤ (s.tsk (i - 1)).id)
def t5 (s : St) (i : Nat) : Bool := decide ((s.tsk i).id < 1 ∨ 65535 < (s.tsk i).id)
def t9 (s : St) (i : Nat) : Bool := onB s i && (and1 (shr (s.tsk i).mask (max0 (s.tsk i).cpu)) == 0)
end Go.Proofs.T
end
section
namespace Go.Proofs.T
open Go Go.AM Go.Proofs
set_option maxRecDepth 20000
variable {Γ : List (Nat × List AVal)}
def put (f : Nat → Option Int) (g : Nat) (v : Int) : Nat → Option Int := fun i => if i = g then some v else f i
def low (f : Nat → Option Int) (g : Nat) (v : Int) : Nat → Option Int := match f g with
  | none => put f g v
  | some u => if v < u then put f g v else f
end Go.Proofs.T
end
section
namespace Go.Proofs.T
open Go Go.AM Go.Proofs
set_option maxRecDepth 20000
variable {Γ : List (Nat × List AVal)}
theorem anyB_false {f : Nat → Bool} : ∀ {n : Nat}, (∀ j, j < n → f j = false) → anyB f n = false
  | 0, _ => rfl
  | n + 1, h => by rw [anyB, anyB_false (fun j hj => h j (by omega)), h n (by omega)]; rfl
end Go.Proofs.T
end
section
namespace Go.Proofs.T
open Go Go.AM Go.Proofs
set_option maxRecDepth 20000
variable {Γ : List (Nat × List AVal)}
structure Mem where
  v : Int
  a : Int
  b : Int
def Mem.row (m : Mem) : List AVal := [.lit (.int .u64 m.v), .lit (.int .i64 m.a), .lit (.int .i64 m.b)]
attribute [go_sem] Mem.row
end Go.Proofs.T
end
section
namespace Go.AM
open Go.Sort Go.Proofs
set_option maxRecDepth 20000
end Go.AM
namespace Go.Proofs.T
open Go Go.Proofs Go.Shelf Go.RowKit Go.Lib Go.Sort
end Go.Proofs.T
namespace Go.Proofs.T
open Go Go.AM Go.Proofs Go.Shelf Go.RowKit Go.Lib Go.Sort
def Flt.ok (f : Flt) : Prop := (0 ≤ f.r ∧ f.r < 256) ∧ (0 ≤ f.a ∧ f.a < 1000000) ∧ (0 ≤ f.b ∧ f.b < 1000000)
end Go.Proofs.T
namespace Go.Proofs.T
open Go Go.AM Go.Proofs Go.Shelf Go.RowKit Go.Lib Go.Sort
variable {Γ : List (Nat × List AVal)}
end Go.Proofs.T
end
section
namespace Go.Proofs.T
open Go Go.AM Go.Proofs
set_option maxRecDepth 20000
variable {Γ : List (Nat × List AVal)}
theorem Mv.impure {kb k : Nat} {fr : Fr} {H : Heap} (id : Nat) {s : Nat} {p : Bool} {rows : List (List AVal)} (hH : AM.look H id = some ⟨s, p, rows⟩) :
    Mv kb k fr H k fr ((id, ⟨s, false, rows⟩) :: del H id) := fun hk => Mv.wk ⟨hk, fun t v h => ⟨v, h, VLe.refl v⟩, fun i B hB => by
  rw [look_cons_del] at hB
  split at hB
  · rename_i he
    subst he
    cases hB
    exact ⟨_, hH, rfl, fun q row hq => ⟨row, hq, rfl, fun c u v hu hv => by rw [hu] at hv; cases hv; exact VLe.refl _⟩, fun h => by cases h⟩
  · exact ⟨B, hB, BLe.refl B⟩, .inl rfl⟩ hk
end Go.Proofs.T
end
section
namespace Go.Proofs.T
open Go Go.AM Go.Proofs
set_option maxRecDepth 20000
def leF (x y : Flt) : Prop := ¬ (y.r < x.r ∨ (y.r = x.r ∧ (y.a < x.a ∨ (y.a = x.a ∧ y.b < x.b))))
end Go.Proofs.T
end
section
namespace Go.Proofs.T
open Go Go.AM Go.Proofs Go.RowKit
set_option maxRecDepth 20000
attribute [local go_sem] Oper.semAt_some
end Go.Proofs.T
end
section
namespace Go.Proofs.T
open Go Go.AM Go.Proofs
set_option maxRecDepth 20000
variable {Γ : List (Nat × List AVal)}
theorem VLe.tups {us vs : List AVal} (h : VLes us vs) : VLe (.tup us) (.tup vs) := fun w G ρ A cv hv => by
  obtain ⟨h1, h2⟩ := h.spec
  cases hv with
  | tup h3 h4 =>
    refine .tup (by omega) fun j v hj => ?_
    have hlt := (List.getElem?_eq_some_iff.1 hj).1
    have hu : us[j]? = some us[j] := List.getElem?_eq_getElem (by omega)
    exact h2 j _ v hu hj _ _ _ _ _ (h4 j _ hu)
end Go.Proofs.T
end
section
namespace Go.AM
open Go
def deS : AVal → AVal
  | .slc id r m _ => .sl id r m
  | v => v
theorem deS_V {w : World} {G : Nat → Prop} {ρ : Names} {A : Allow} {v : AVal} {cv : Value} (h : V w G ρ A v cv) : V w G ρ A (deS v) cv := by
  cases h with
  | dangc h1 h2 => exact .dangs h1 h2
  | slc h1 h2 h3 h4 h5 h6 h7 => exact .sl h1 h2 h3 h4 h5 h6 h7
  | junk => exact .junk
  | lit => exact .lit
  | dang h1 h2 => exact .dang h1 h2
  | dangs h1 h2 => exact .dangs h1 h2
  | ptr h1 h2 h3 => exact .ptr h1 h2 h3
  | dangm h1 h2 => exact .dangm h1 h2
  | mp h1 h2 h3 => exact .mp h1 h2 h3
  | dangi h1 h2 => exact .dangi h1 h2
  | it h1 h2 h3 => exact .it h1 h2 h3
  | sl h1 h2 h3 h4 h5 h6 h7 => exact .sl h1 h2 h3 h4 h5 h6 h7
  | sl0 h1 h2 => exact .sl0 h1 h2
  | rp g h1 h2 h3 => exact .rp g h1 h2 h3
  | rd0 => exact .rd0
  | rd g h1 h2 h3 h4 h5 h6 => exact .rd g h1 h2 h3 h4 h5 h6
  | agg h1 h2 => exact .agg h1 h2
  | tup h1 h2 => exact .tup h1 h2
  | fn h1 h2 => exact .fn h1 h2
  | nn => exact .nn
  | bfn h => exact .bfn h
theorem VLe.slc (id r n c : Nat) : VLe (.slc id r n c) (.sl id r n) := fun _ _ _ _ _ h => deS_V h
def setRows (rows new : List (List AVal)) (r : Nat) : List (List AVal) := rows.take r ++ new ++ rows.drop (r + new.length)
theorem setRows_get {rows new : List (List AVal)} {r : Nat} (hr : r ≤ rows.length) {q : Nat} {row : List AVal} (h : (setRows rows new r)[q]? = some row) :
    (q < r ∧ rows[q]? = some row) ∨ (r ≤ q ∧ q < r + new.length ∧ new[q - r]? = some row) ∨ (r + new.length ≤ q ∧ rows[q]? = some row) := by
  unfold setRows at h
  rw [List.append_assoc, List.getElem?_append] at h
  have hl : (rows.take r).length = r := by simp; omega
  rw [hl] at h
  split at h
  · rename_i hlt; rw [List.getElem?_take, if_pos hlt] at h; exact .inl ⟨hlt, h⟩
  · rename_i hge
    rw [List.getElem?_append] at h
    split at h
    · rename_i h2; exact .inr (.inl ⟨by omega, by omega, h⟩)
    · rename_i h2
      rw [List.getElem?_drop] at h
      have e : r + new.length + (q - r - new.length) = q := by omega
      rw [e] at h
      exact .inr (.inr ⟨by omega, h⟩)
section
variable {P : Program} {Γ : List (Nat × List AVal)} {o : Oper} {ev : Operand → Option AVal} {get : Nat → Option Blk} {k : Nat}
theorem write_rel {w : World} {G : Nat → Prop} {ρ : Names} {H : Owner} {A A' : Allow} (hr : HRel Γ w G ρ H) {id b : Nat} {B : Blk} {C : Array Value} {ty : TypeId} (hAid : A id) (hAA : ∀ i, A' i → A i) (hb : ρ id = some (b, B.sz)) (hC : w.heap[b]? = some (.cells C ty (0, 0)))
    (hrows : ∀ r row c v, B.rows[r]? = some row → row[c]? = some v → ∃ cv, C[r * B.sz + c]? = some cv ∧ V w G (if B.pure then noNames else ρ) (if B.pure then noAllow else A') v cv) (hlen : ∀ (r : Nat) row, B.rows[r]? = some row → row.length = B.sz)
    (r m : Nat) (src : List (List AVal)) (ps : Bool) (gv : Nat → Nat → Value) (hsl : src.length = m) (hsrl : ∀ (q : Nat) row, src[q]? = some row → row.length = B.sz)
    (hgv : ∀ q row c v, src[q]? = some row → row[c]? = some v → V w G (if ps then noNames else ρ) (if ps then noAllow else A) v (gv q c)) (hr0 : r ≤ B.rows.length) (hfit : (r + m) * B.sz ≤ C.size) :
    HRel Γ (w.setRow b (C.toList.take (r * B.sz) ++ news B.sz m gv ++ C.toList.drop (r * B.sz + (news B.sz m gv).length)).toArray) G ρ (updO H (fun i => A i ∨ (k ≤ i ∧ i < k)) [(id, some ⟨B.sz, B.pure && ps, setRows B.rows src r⟩)]) ∧
      Step (fun i => ¬ (k ≤ i ∧ i < k)) w G ρ (w.setRow b (C.toList.take (r * B.sz) ++ news B.sz m gv ++ C.toList.drop (r * B.sz + (news B.sz m gv).length)).toArray) G ρ := by
  have hnl := news_len B.sz m gv
  have hfit' : r * B.sz + m * B.sz ≤ C.size := by rw [← Nat.add_mul]; exact hfit
  have hseg := seg_get (l := C.toList) (vs := news B.sz m gv) (o := r * B.sz) (by rw [hnl]; simpa using hfit')
  have hl2 : (C.toList.take (r * B.sz) ++ news B.sz m gv ++ C.toList.drop (r * B.sz + (news B.sz m gv).length)).toArray.size = C.size := by
    simp only [List.size_toArray, List.length_append, List.length_take, List.length_drop, Array.length_toList]; omega
  have hold : ∀ (v : AVal) (cv : Value), V w G (if B.pure then noNames else ρ) (if B.pure then noAllow else A') v cv → V w G (if (B.pure && ps) then noNames else ρ) (if (B.pure && ps) then noAllow else A) v cv := fun v cv h => by
    cases hp : B.pure with
    | true =>
      rw [hp] at h
      simp only [if_true] at h
      cases ps with
      | true => simpa using h
      | false => simp only [Bool.and_false, Bool.false_eq_true, if_false]; exact h.weaken
    | false =>
      rw [hp] at h
      simp only [Bool.false_and, Bool.false_eq_true, if_false] at h ⊢
      exact h.mono (fun _ h => h) (fun _ _ => rfl) (fun _ _ => rfl) hAA (fun _ _ => .inr rfl)
  have hnew : ∀ (v : AVal) (cv : Value), V w G (if ps then noNames else ρ) (if ps then noAllow else A) v cv → V w G (if (B.pure && ps) then noNames else ρ) (if (B.pure && ps) then noAllow else A) v cv := fun v cv h => by
    cases ps with
    | true =>
      simp only [if_true] at h
      cases B.pure with
      | true => simpa using h
      | false => simp only [Bool.false_and, Bool.false_eq_true, if_false]; exact h.weaken
    | false => simpa using h
  have hrw := HRel.rewrite hr hb id (.inl rfl) ⟨B.sz, B.pure && ps, setRows B.rows src r⟩ rfl
    (C.toList.take (r * B.sz) ++ news B.sz m gv ++ C.toList.drop (r * B.sz + (news B.sz m gv).length)).toArray ty A (fun i => A i ∨ (k ≤ i ∧ i < k)) (.inl rfl) (fun _ h => .inl h) (.inl hAid)
    (w.setRow b (C.toList.take (r * B.sz) ++ news B.sz m gv ++ C.toList.drop (r * B.sz + (news B.sz m gv).length)).toArray)
    (setRow_heap w b C _ ty _ hC) (fun j hj => setRow_other w b j _ hj) (size_setRow _ _ _)
    (by
      unfold World.shape?
      rw [setRow_heap w b C _ ty _ hC, hC]
      simp only [hl2])
    rfl rfl rfl (fun q row h => by
      rcases setRows_get hr0 h with ⟨_, h⟩ | ⟨_, _, h⟩ | ⟨_, h⟩
      · exact hlen q row h
      · exact hsrl _ row h
      · exact hlen q row h)
    (fun q row c v h1 h2 => by
      show ∃ cv, (C.toList.take (r * B.sz) ++ news B.sz m gv ++ C.toList.drop (r * B.sz + (news B.sz m gv).length)).toArray[q * B.sz + c]? = some cv ∧ V w G (if (B.pure && ps) then noNames else ρ) (if (B.pure && ps) then noAllow else A) v cv
      rw [List.getElem?_toArray, hseg]
      rcases setRows_get hr0 h1 with ⟨hq, h⟩ | ⟨hq, hq', h⟩ | ⟨hq, h⟩
      · obtain ⟨cu, h3, h4⟩ := hrows q row c v h h2
        have hc : c < B.sz := by have := (List.getElem?_eq_some_iff.1 h2).1; have := hlen q row h; omega
        have h6 : q * B.sz + c < r * B.sz := by
          have : (q + 1) * B.sz ≤ r * B.sz := Nat.mul_le_mul_right _ hq
          rw [Nat.add_mul] at this; omega
        rw [if_pos h6]
        exact ⟨cu, by rw [Array.getElem?_toList]; exact h3, hold v cu h4⟩
      · have hc : c < B.sz := by have := (List.getElem?_eq_some_iff.1 h2).1; have := hsrl _ row h; omega
        have h9 := news_get (gv := gv) (by omega : q - r < m) hc
        have h10 := (List.getElem?_eq_some_iff.1 h9).1
        have e1 : q * B.sz + c = r * B.sz + ((q - r) * B.sz + c) := by
          have : q * B.sz = r * B.sz + (q - r) * B.sz := by rw [← Nat.add_mul]; congr 1; omega
          omega
        rw [e1, if_neg (by omega), if_pos (by omega)]
        have e2 : r * B.sz + ((q - r) * B.sz + c) - r * B.sz = (q - r) * B.sz + c := by omega
        rw [e2]
        exact ⟨_, h9, hnew v _ (hgv _ row c v h h2)⟩
      · obtain ⟨cu, h3, h4⟩ := hrows q row c v h h2
        have h6 : r * B.sz + (news B.sz m gv).length ≤ q * B.sz + c := by
          have : (r + m) * B.sz ≤ q * B.sz := Nat.mul_le_mul_right _ (by omega)
          rw [Nat.add_mul] at this; omega
        rw [if_neg (by omega), if_neg (by omega)]
        exact ⟨cu, by rw [Array.getElem?_toList]; exact h3, hold v cu h4⟩)
  obtain ⟨hrel, hst⟩ := hrw
  have hnm : setN (setN ρ id none) id (some (b, B.sz)) = ρ := funext fun i => by
    simp only [setN]; split
    · rename_i he; rw [he, hb]
    · rfl
  rw [hnm] at hrel hst
  have hup : updO H (fun i => A i ∨ (k ≤ i ∧ i < k)) [(id, some ⟨B.sz, B.pure && ps, setRows B.rows src r⟩), (id, none)] = updO H (fun i => A i ∨ (k ≤ i ∧ i < k)) [(id, some ⟨B.sz, B.pure && ps, setRows B.rows src r⟩)] := funext fun i => by
    simp only [updO]; split <;> rfl
  rw [hup] at hrel
  exact ⟨hrel, ⟨hst.size, hst.keep, hst.shape, hst.g, hst.g', hst.own, fun i _ => hst.ids i (.inr rfl), hst.os, hst.tape, hst.output⟩⟩
end
end Go.AM
end
section
namespace Go.AM
open Go
section
variable {P : Program} {Γ : List (Nat × List AVal)} {o : Oper} {ev : Operand → Option AVal} {get : Nat → Option Blk} {k : Nat}
theorem slc_spec {w : World} {G : Nat → Prop} {ρ : Names} {H : Owner} {A A' : Allow} (hr : HRel Γ w G ρ H) {id r n c : Nat} {B : Blk} (hH : H id = some (B, A')) {cv : Value} (hv : V w G ρ A (.slc id r n c) cv) :
    ∃ b off C ty, cv = .slice (some ⟨b, off, none⟩) n c ∧ A id ∧ ρ id = some (b, B.sz) ∧ w.heap[b]? = some (.cells C ty (0, 0)) ∧ (r + c) * B.sz ≤ C.size ∧ n ≤ c ∧ c ≤ maxLen ∧ (c = 0 ∨ off = r * B.sz) ∧
      (∀ r row c v, B.rows[r]? = some row → row[c]? = some v → ∃ cv, C[r * B.sz + c]? = some cv ∧ V w G (if B.pure then noNames else ρ) (if B.pure then noAllow else A') v cv) ∧ (∀ (r : Nat) row, B.rows[r]? = some row → row.length = B.sz) := by
  obtain ⟨_, b, hb, _, hBR⟩ := hr.blk id B A' hH
  cases hv with
  | dangc _ hn => rw [hb] at hn; cases hn
  | slc h1 h2 h3 h4 h5 h6 h7 =>
    rw [hb] at h2; cases h2
    obtain ⟨⟨C, ty, hC, hrows⟩, hlen⟩ := hBR.old h3
    have e := h3
    unfold World.shape? at e
    rw [hC] at e
    simp at e
    obtain ⟨rfl, rfl⟩ := e
    exact ⟨_, _, C, _, rfl, h1, hb, hC, h4, h5, h6, h7, hrows, hlen⟩
theorem run_slice_cap {t s : Nat} (ht : esz P t = some s) (lo hi : Option Value) (base : Option Addr) (len cap : Nat) (l h : Int) (hl : lo = none ∧ l = 0 ∨ ∃ kk, lo = some (.int kk l)) (hh : hi = none ∧ h = len ∨ ∃ kk, hi = some (.int kk h))
    (h0 : 0 ≤ l) (h1 : l ≤ h) (h2 : h ≤ cap) (w : World) :
    (Instr.sliceAt t (.slice base len cap) lo hi none).run P w = .ok (.slice (if cap = l.toNat then base else base.map (·.add (l.toNat * s))) (h.toNat - l.toNat) (cap - l.toNat)) w := by
  obtain ⟨e, i, hu, hi', rfl⟩ := esz_spec ht
  have hb : (Instr.sliceBounds true len cap lo hi none).run P w = .ok (l.toNat, h.toNat, cap) w := by
    have q1 : (0 : Int) ≤ h ∧ h ≤ (cap : Int) := ⟨by omega, by omega⟩
    have q3 : (0 : Int) ≤ l ∧ l ≤ (h.toNat : Int) := ⟨h0, by omega⟩
    rcases hl with ⟨rfl, rfl⟩ | ⟨kl, rfl⟩ <;> rcases hh with ⟨rfl, rfl⟩ | ⟨kh, rfl⟩
    · simp [Instr.sliceBounds]
    · simp [Instr.sliceBounds, Instr.sliceBound, asIntOf, q1]
    · have q2 : (0 : Int) ≤ l ∧ l ≤ (len : Int) := ⟨h0, h1⟩
      simp [Instr.sliceBounds, Instr.sliceBound, asIntOf, q2]
    · simp only [Instr.sliceBounds, Instr.sliceBound, asIntOf, Sem.run_bind, Sem.run_pure, Result.andThen_ok, q1, and_self, if_true, q3]
  simp only [Instr.sliceAt, underlying, Sem.run_bind, run_program, Result.andThen_ok, hu, Sem.run_pure, Instr.slice, hb, sizeOf, typeInfo, hi']
theorem slc_run {t id r n c : Nat} {x : Operand} {lo hi : Option Operand} {B : Blk} {l h : Int} (ho : o.op = .slice t x lo hi none) (ht : esz P t = some B.sz) (hx : ev x = some (.slc id r n c))
    (hl : bound ev lo 0 = some l) (hh : bound ev hi n = some h) (h0 : 0 ≤ l) (h1 : l ≤ h) (h2 : h ≤ c) {w : World} {G : Nat → Prop} {ρ : Names} {H : Owner} {A A' : Allow} {a : Act} (hr : HRel Γ w G ρ H) (hH : H id = some (B, A'))
    (hop : ∀ x, x ∈ o.op.operands → ∀ v, ev x = some v → V w G ρ A v (a.eval x)) :
    ∃ cv, (execOp a.eval o).run P w = .ok (.value cv) w ∧ V w G ρ A (.slc id (r + l.toNat) (h.toNat - l.toNat) (c - l.toNat)) cv := by
  have hvx := hop x (by simp [ho, Op.operands]) _ hx
  have el := bound_spec (w := w) (G := G) (ρ := ρ) (A := A) (a := a) hl (fun y hy v hv => hop y (by simp [ho, Op.operands, hy]) v hv)
  have eh := bound_spec (w := w) (G := G) (ρ := ρ) (A := A) (a := a) hh (fun y hy v hv => hop y (by simp [ho, Op.operands, hy]) v hv)
  obtain ⟨b, off, C, ty, hev, hA, hb, hC, hm, hn, hmx, hoff, _⟩ := slc_spec hr hH hvx
  have hrun := run_slice_cap ht (lo.map a.eval) (hi.map a.eval) (some ⟨b, off, none⟩) n c l h el eh h0 h1 h2 w
  have hsh : w.shape? b = some (ty, C.size) := by unfold World.shape?; rw [hC]
  have hm' : (r + l.toNat + (c - l.toNat)) * B.sz ≤ C.size := by
    have : r + l.toNat + (c - l.toNat) = r + c := by omega
    rw [this]; exact hm
  refine ⟨_, by simp only [execOp, ho, hev, Option.map_none, Sem.run_bind, hrun, Result.andThen_ok, Sem.run_pure]; rfl, ?_⟩
  by_cases hcl : c = l.toNat
  · rw [if_pos hcl]
    exact .slc hA hb hsh hm' (by omega) (by omega) (.inl (by omega))
  · rw [if_neg hcl, Option.map_some, Addr.add_mid]
    refine .slc hA hb hsh hm' (by omega) (by omega) (.inr ?_)
    rcases hoff with h4 | h4
    · omega
    · rw [h4, Nat.add_mul]
theorem slc_good {t id r n c : Nat} {x : Operand} {lo hi : Option Operand} {B : Blk} {l h : Int} (ho : o.op = .slice t x lo hi none) (hB : get id = some B) (ht : esz P t = some B.sz) (hx : ev x = some (.slc id r n c))
    (hl : bound ev lo 0 = some l) (hh : bound ev hi n = some h) (h0 : 0 ≤ l) (h1 : l ≤ h) (h2 : h ≤ c) : Good P Γ o ev get k ⟨.slc id (r + l.toNat) (h.toNat - l.toNat) (c - l.toNat), k, [], [id]⟩ := by
  refine ⟨OpOk_quiet fun w G ρ H A a hr hrd hop => ?_, fun id' hid => by simp at hid; rw [hid, hB]; rfl, Nat.le_refl _⟩
  obtain ⟨B', A', h3, hH, _⟩ := hrd id (by simp)
  rw [hB] at h3; cases h3
  exact slc_run ho ht hx hl hh h0 h1 h2 hr hH hop
end
end Go.AM
end
section
namespace Go.AM
open Go
section
variable {P : Program} {Γ : List (Nat × List AVal)} {o : Oper} {ev : Operand → Option AVal} {get : Nat → Option Blk} {k : Nat}
theorem src_cells {w : World} {G : Nat → Prop} {ρ : Names} {A : Allow} {s m : Nat} {rows : List (List AVal)} {p : Bool} (hs : 0 < s) {cnt : Nat} (hcnt : cnt ≤ m) {b off : Nat} {gv : Nat → Nat → Value} (hl : rows.length = m) (hrl : ∀ (r : Nat) row, rows[r]? = some row → row.length = s)
    (hgv : ∀ r row c v, rows[r]? = some row → row[c]? = some v → w.cell? ⟨b, off + r * s + c, none⟩ = some (gv r c) ∧ V w G (if p then noNames else ρ) (if p then noAllow else A) v (gv r c)) (hone : rowsOne rows) :
    (∀ j u, (news s cnt gv)[j]? = some u → w.cell? ((⟨b, off, none⟩ : Addr).add j) = some u) ∧ (∀ u ∈ news s cnt gv, u.oneCell' = true) := by
  refine ⟨fun j u hj => ?_, fun u hu => ?_⟩
  · obtain ⟨h1, h2, rfl⟩ := news_inv hj hs
    obtain ⟨row, v, h3, h4⟩ := row_get hrl (by omega : j / s < rows.length) h2
    have h5 := (hgv _ row _ v h3 h4).1
    rw [Addr.add_mid, ← h5]
    have : off + j = off + j / s * s + j % s := by have := Nat.div_add_mod j s; rw [Nat.mul_comm] at this; omega
    rw [this]
  · obtain ⟨j, hj⟩ := List.getElem?_of_mem hu
    obtain ⟨h1, h2, rfl⟩ := news_inv hj hs
    obtain ⟨row, v, h3, h4⟩ := row_get hrl (by omega : j / s < rows.length) h2
    exact one_V (hgv _ row _ v h3 h4).2 (hone _ row _ v h3 h4)
theorem take_get {α : Type} {l : List α} {n q : Nat} {x : α} (h : (l.take n)[q]? = some x) : q < n ∧ l[q]? = some x := by
  rw [List.getElem?_take] at h
  split at h
  · exact ⟨‹_›, h⟩
  · cases h
theorem SrcA.some {v : AVal} {s m : Nat} {rows : List (List AVal)} {p : Bool} {ids : List Nat} (h : SrcA get v s m rows p ids) : ∀ i, i ∈ ids → (get i).isSome = true := fun i hi => by
  cases h with
  | rd => simp at hi
  | nil => simp at hi
  | sl h1 _ => rw [List.mem_singleton] at hi; rw [hi, h1]; rfl
theorem rds_cons {id : Nat} {B : Blk} {ids : List Nat} (hB : get id = some B) (h : ∀ i, i ∈ ids → (get i).isSome = true) : ∀ i, i ∈ id :: ids → (get i).isSome = true := fun i hi => by
  rcases List.mem_cons.1 hi with e | e
  · rw [e, hB]; rfl
  · exact h i e
theorem appin_good {x y : Operand} {t id n c m s by' : Nat} {zrow : List AVal} {B : Blk} {v : AVal} {rows : List (List AVal)} {p : Bool} {ids : List Nat}
    (ho : o.op = .call { callee := .builtin .append, args := #[x, y], argTypes := #[t, t] }) (hz : ezero P t = some (s, by', zrow)) (hx : ev x = some (.slc id 0 n c)) (hB : get id = some B) (hBs : B.sz = s) (hy : ev y = some v) (hs : SrcA get (deS v) s m rows p ids)
    (hone : (rows.all fun row => row.all one) = true) (hm : 0 < m) (hroom : n + m ≤ c) (hr : n ≤ B.rows.length) :
    Good P Γ o ev get k ⟨.slc id 0 (n + m) c, k, [(id, some ⟨B.sz, B.pure && p, setRows B.rows rows n⟩)], id :: ids⟩ := by
  refine ⟨?_, rds_cons hB hs.some, Nat.le_refl _⟩
  · intro w G ρ H A a hrl hA hf hrd hop next Q hn
    unfold ezero at hz
    split at hz
    case h_2 => cases hz
    rename_i e hu
    split at hz
    case h_2 => cases hz
    rename_i i hi
    split at hz
    case h_2 => cases hz
    rename_i z hzz
    split at hz
    case isFalse => cases hz
    rename_i hsz
    cases hz
    obtain ⟨B', A', h3, hH, hAA⟩ := hrd id (by simp)
    rw [hB] at h3; cases h3
    have hvx := hop x (by simp [ho, Op.operands, Call.operands]) _ hx
    have hvy := deS_V (hop y (by simp [ho, Op.operands, Call.operands]) _ hy)
    obtain ⟨hsl, hsrl, hsex⟩ := hs.src hrl (fun id' hid => hrd id' (List.mem_cons_of_mem _ hid)) hvy
    obtain ⟨sb, soff, scap, hsv, gv, hgv⟩ := hsex (by omega)
    obtain ⟨hcell, h1⟩ := src_cells (cnt := m) hsz.2 (Nat.le_refl _) hsl hsrl hgv (one_row_one hone)
    obtain ⟨b, off, C, ty, hev, h4, hb, hC, h7, h8, h9, h10, hrows, hlen⟩ := slc_spec hrl hH hvx
    have hoff := h10.resolve_left (by omega)
    rw [Nat.zero_mul] at hoff
    subst hoff
    rw [Nat.zero_add] at h7
    have hfit : (n + m) * B.sz ≤ C.size := Nat.le_trans (Nat.mul_le_mul_right _ (by omega)) h7
    have hnl := news_len i.size m gv
    have hrun := run_append_room' (P := P) w t o.type e i hu hi b n c C ty hC ⟨sb, soff, none⟩ m scap (news i.size m gv) hnl hcell h1 hroom (by rw [hnl, ← Nat.add_mul, ← hBs]; exact hfit)
    have hrun' : (execOp a.eval o).run P w = .ok (.value (.slice (some ⟨b, 0, none⟩) (n + m) c)) (w.setRow b (C.toList.take (n * i.size) ++ news i.size m gv ++ C.toList.drop (n * i.size + (news i.size m gv).length)).toArray) := by
      simp only [execOp, ho, resolve, invoke, builtin]
      simp only [List.map_toArray, List.map_cons, List.map_nil, Sem.run_bind, Sem.run_pure, Result.andThen_ok, hev, hsv, hrun]
    unfold Oper.wp
    rw [hrun']
    rw [← hBs]
    have hw := write_rel (k := k) hrl h4 hAA hb hC hrows hlen n m rows p gv hsl (fun q row h => by rw [hBs]; exact hsrl q row h) (fun q row c v h h' => (hgv q row c v h h').2) hr hfit
    refine hn _ G ρ _ hw.1 (.slc (b := b) (s := B.sz) (ty := ty) (m := C.size) (.inl h4) hb ?_ (by rw [Nat.zero_add]; exact h7) hroom h9 (.inr (by simp))) hw.2
    unfold World.shape?
    rw [setRow_heap w b C _ ty _ hC]
    have hl2 : (C.toList.take (n * B.sz) ++ news B.sz m gv ++ C.toList.drop (n * B.sz + (news B.sz m gv).length)).toArray.size = C.size := by
      rw [Nat.add_mul] at hfit
      simp only [List.size_toArray, List.length_append, List.length_take, List.length_drop, Array.length_toList, news_len]; omega
    simp only [hl2]
end
end Go.AM
end
section
namespace Go.AM
open Go
def behind (Hc : Heap) (ρ : Names) (b : Nat) : Prop := ∃ id B s, AM.look Hc id = some B ∧ ρ id = some (b, s)
def Holds (Hc : Heap) (H : Owner) (A : Allow) : Prop := ∀ id B, AM.look Hc id = some B → ∃ A', H id = some (B, A') ∧ ∀ i, A' i → A i
def Bor (Γ : List (Nat × List AVal)) (Hc : Heap) (v v' : AVal) : Prop :=
  ∀ w G ρ H A cv, HRel Γ w G ρ H → Holds Hc H A → V w G ρ A v cv → V w (fun b => G b ∨ behind Hc ρ b) noNames noAllow v' cv
inductive BorL (Γ : List (Nat × List AVal)) (Hc : Heap) : List AVal → List AVal → Prop
  | nil : BorL Γ Hc [] []
  | cons {v v' vs vs'} : Bor Γ Hc v v' → BorL Γ Hc vs vs' → BorL Γ Hc (v :: vs) (v' :: vs')
theorem BorL.len {Γ : List (Nat × List AVal)} {Hc : Heap} {vs vs' : List AVal} (h : BorL Γ Hc vs vs') : vs.length = vs'.length := by
  induction h with
  | nil => rfl
  | cons _ _ ih => simp [ih]
theorem BorL.get {Γ : List (Nat × List AVal)} {Hc : Heap} {vs vs' : List AVal} (h : BorL Γ Hc vs vs') : ∀ (j : Nat) v', vs'[j]? = some v' → ∃ v, vs[j]? = some v ∧ Bor Γ Hc v v' := by
  induction h with
  | nil => intro j v' hj; simp at hj
  | cons h1 _ ih =>
    intro j v' hj
    cases j with
    | zero => simp only [List.getElem?_cons_zero, Option.some.injEq] at hj; subst hj; exact ⟨_, rfl, h1⟩
    | succ j => simp only [List.getElem?_cons_succ] at hj ⊢; exact ih j v' hj
theorem Bor.clean {Γ : List (Nat × List AVal)} {Hc : Heap} {v : AVal} (h : clean v = true) : Bor Γ Hc v v := fun w G ρ H A cv _ _ hv =>
  (clean_V hv h).mono (fun _ h => .inl h) (fun _ _ => rfl) (fun _ _ => rfl) (fun _ h => h) (fun _ h => h.elim)
section
variable {P : Program} {Γ : List (Nat × List AVal)} {o : Oper} {ev : Operand → Option AVal} {get : Nat → Option Blk} {k : Nat}
theorem Bor.ptr {Hc : Heap} {id r : Nat} {B : Blk} {row : List AVal} {cells : List AVal} (hB : AM.look Hc id = some B) (hrow : B.rows[r]? = some row) (hl : cells.length = row.length) (h : ∀ (j : Nat) v v', row[j]? = some v → cells[j]? = some v' → Bor Γ Hc v v') : Bor Γ Hc (.ptr id r 0) (.rp cells) := fun w G ρ H A cv hr hh hv => by
  obtain ⟨A', hH, hAA⟩ := hh id B hB
  obtain ⟨_, b, hb, _, hBR⟩ := hr.blk id B A' hH
  cases hv with
  | dang _ hn => rw [hb] at hn; cases hn
  | ptr ha hρ hsh =>
    rw [hb] at hρ; cases hρ
    obtain ⟨⟨C, ty, hC, hrows⟩, hlen⟩ := hBR.old hsh
    have key : ∀ (j : Nat) v', cells[j]? = some v' → ∃ v cu, row[j]? = some v ∧ C[r * B.sz + j]? = some cu ∧ V w G ρ A v cu := fun j v' hj => by
      have hlt := (List.getElem?_eq_some_iff.1 hj).1
      have hu : row[j]? = some row[j] := List.getElem?_eq_getElem (by omega)
      obtain ⟨cu, h3, h4⟩ := hrows r row j _ hrow hu
      refine ⟨_, cu, hu, h3, ?_⟩
      by_cases hp : B.pure = true
      · simp only [hp, if_true] at h4; exact h4.weaken
      · simp only [hp] at h4; exact h4.mono (fun _ h => h) (fun _ _ => rfl) (fun _ _ => rfl) hAA (fun _ _ => .inr rfl)
    refine .rp (fun j => C.getD (r * B.sz + j) undef) (.inr ⟨id, B, _, hB, hb⟩) (fun j v' hj => ?_) (fun j v' hj => ?_)
    · obtain ⟨v, cu, _, h3, _⟩ := key j v' hj
      rw [Nat.add_zero, cell_of_row w b _ C ty (0, 0) hC, h3, Array.getD_eq_getD_getElem?, h3]; rfl
    · obtain ⟨v, cu, h2, h3, h4⟩ := key j v' hj
      have e : C.getD (r * B.sz + j) undef = cu := by rw [Array.getD_eq_getD_getElem?, h3]; rfl
      rw [e]
      exact h j v v' h2 hj w G ρ H A cu hr hh h4
theorem Bor.sl {Hc : Heap} {id r n : Nat} {B : Blk} {F : Nat → List AVal} (hB : AM.look Hc id = some B) (hn : r + n ≤ B.rows.length) (hl : ∀ i, i < n → (F i).length = B.sz)
    (h : ∀ (i : Nat) row (j : Nat) v v', i < n → B.rows[r + i]? = some row → row[j]? = some v → (F i)[j]? = some v' → Bor Γ Hc v v') : Bor Γ Hc (.sl id r n) (.rd B.sz n F) := fun w G ρ H A cv hr hh hv => by
  obtain ⟨A', hH, hAA⟩ := hh id B hB
  obtain ⟨_, b, hb, _, hBR⟩ := hr.blk id B A' hH
  cases hv with
  | dangs _ hn => rw [hb] at hn; cases hn
  | sl0 => exact .rd0
  | sl ha hρ hsh hm hn1 hc hoff =>
    rw [hb] at hρ; cases hρ
    rename_i cap off
    obtain ⟨⟨C, ty, hC, hrows⟩, hlen⟩ := hBR.old hsh
    by_cases h0 : n = 0
    · subst h0; exact .rd0
    have hoff' : off = r * B.sz := hoff.resolve_left (by omega)
    subst hoff'
    have key : ∀ (i j : Nat) v', i < n → (F i)[j]? = some v' → ∃ row v cu, B.rows[r + i]? = some row ∧ row[j]? = some v ∧ C[(r + i) * B.sz + j]? = some cu ∧ V w G ρ A v cu := fun i j v' hi hj => by
      have hrow : B.rows[r + i]? = some B.rows[r + i] := List.getElem?_eq_getElem (by omega)
      have hlr := hlen _ _ hrow
      have hlt := (List.getElem?_eq_some_iff.1 hj).1
      rw [hl i hi] at hlt
      have hu : B.rows[r + i][j]? = some (B.rows[r + i][j]'(by omega)) := List.getElem?_eq_getElem (by omega)
      obtain ⟨cu, h3, h4⟩ := hrows (r + i) _ j _ hrow hu
      refine ⟨_, _, cu, hrow, hu, h3, ?_⟩
      by_cases hp : B.pure = true
      · simp only [hp, if_true] at h4; exact h4.weaken
      · simp only [hp] at h4; exact h4.mono (fun _ h => h) (fun _ _ => rfl) (fun _ _ => rfl) hAA (fun _ _ => .inr rfl)
    refine .rd (fun i j => C.getD ((r + i) * B.sz + j) undef) (.inr ⟨id, B, _, hB, hb⟩) hn1 (by omega) hl (fun i j v' hi hj => ?_) (fun i j v' hi hj => ?_)
    · obtain ⟨row, v, cu, _, _, h3, _⟩ := key i j v' hi hj
      have e : r * B.sz + i * B.sz + j = (r + i) * B.sz + j := by rw [Nat.add_mul]
      rw [e, cell_of_row w b _ C ty (0, 0) hC, h3, Array.getD_eq_getD_getElem?, h3]; rfl
    · obtain ⟨row, v, cu, h1, h2, h3, h4⟩ := key i j v' hi hj
      have e : C.getD ((r + i) * B.sz + j) undef = cu := by rw [Array.getD_eq_getD_getElem?, h3]; rfl
      rw [e]
      exact h i row j v v' hi h1 h2 hj w G ρ H A cu hr hh h4
end
end Go.AM
end
section
namespace Go.AM
open Go
section
variable {P : Program} {kb : Nat} {k : Nat} {fr : Fr} {H : Heap}
theorem Mv.cut (id n : Nat) {s : Nat} {p : Bool} {rows : List (List AVal)} (hB : AM.look H id = some ⟨s, p, rows⟩) : Mv kb k fr H k fr (setH H id ⟨s, p, rows.take n⟩) := fun hkb => ⟨hkb, fun Γ nt A0 w G ρ ac hA hi => by
  refine ⟨G, ρ, ⟨⟨fun i h => ?_, fun i B' A h => ?_, hi.rel.inj, hi.rel.ro, hi.rel.glob⟩, hi.size, hi.defers, hi.frm⟩, Step.refl _ _ _ _⟩
  · simp only [ofHeap, Option.map_eq_none_iff, look_setH] at h
    split at h
    · cases h
    · exact hi.rel.dom i (by simp [ofHeap, h])
  · simp only [ofHeap, Option.map_eq_some_iff, look_setH] at h
    obtain ⟨B1, h, he⟩ := h
    cases he
    split at h
    · rename_i e
      subst e
      cases h
      obtain ⟨h1, b, h2, h3, ⟨⟨C, ty, hC, hrows⟩, hlen⟩⟩ := hi.rel.blk i ⟨s, p, rows⟩ (alw A0 kb k) (by simp [ofHeap, hB])
      exact ⟨h1, b, h2, h3, ⟨⟨C, ty, hC, fun r row c v h5 h6 => hrows r row c v (take_get h5).2 h6⟩, fun r row h5 => hlen r row (take_get h5).2⟩⟩
    · exact hi.rel.blk i _ _ (by simp [ofHeap, h])⟩
end
end Go.AM
end
section
namespace Go.AM
open Go
section
variable {P : Program} {Γ : List (Nat × List AVal)} {o : Oper} {ev : Operand → Option AVal} {get : Nat → Option Blk} {k : Nat}
theorem good_deS {out : Out} (h : Good P Γ o (fun x => (ev x).map deS) get k out) : Good P Γ o ev get k out := by
  obtain ⟨h1, h2, h3⟩ := h
  refine ⟨fun w G ρ H A a hr hA hf hrd hop next Q hn => h1 w G ρ H A a hr hA hf hrd (fun x hx v hv => ?_) next Q hn, h2, h3⟩
  simp only [Option.map_eq_some_iff] at hv
  obtain ⟨u, hu, rfl⟩ := hv
  exact deS_V (hop x hx u hu)
theorem aop_deS {out : Out} (h : aop P Γ o (fun x => (ev x).map deS) get k = some out) : Good P Γ o ev get k out := good_deS (aop_good h)
theorem lenc_good {x : Operand} {t id r n c : Nat} {B : Blk} (ho : o.op = .call { callee := .builtin .len, args := #[x], argTypes := #[t] }) (ht : isSliceT P t = true) (hx : ev x = some (.slc id r n c)) (hB : get id = some B) :
    Good P Γ o ev get k ⟨.lit (.int .i64 n), k, [], [id]⟩ :=
  aop_deS (by simp [aop, ho, args1, lenO, hx, deS, hB, ht, qOut])
theorem app0_good {t s s' by' id r n c : Nat} {x y : Operand} {v : AVal} {zrow : List AVal} {rows : List (List AVal)} {p : Bool} {ids : List Nat} {B : Blk} (ho : o.op = .call { callee := .builtin .append, args := #[x, y], argTypes := #[t, t] }) (hz : ezero P t = some (s, by', zrow))
    (hx : ev x = some (.slc id r n c)) (hB : get id = some B) (hy : ev y = some v) (hs : SrcA get (deS v) s' 0 rows p ids) :
    Good P Γ o ev get k ⟨.slc id r n c, k, [], id :: ids⟩ := by
  refine ⟨OpOk_quiet fun w G ρ H A a hr hrd hop => ?_, rds_cons hB hs.some, Nat.le_refl _⟩
  have hvx := hop x (by simp [ho, Op.operands, Call.operands]) _ hx
  have hvy := deS_V (hop y (by simp [ho, Op.operands, Call.operands]) _ hy)
  have hxs : ∃ base n cap, a.eval x = .slice base n cap ∧ n ≤ cap := by
    generalize a.eval x = cv at hvx
    obtain ⟨B', A', h2, hH, _⟩ := hrd id (by simp)
    obtain ⟨_, b, hb, _⟩ := hr.blk id B' A' hH
    cases hvx with
    | dangc _ hn => rw [hb] at hn; cases hn
    | slc _ _ _ _ h5 => exact ⟨_, _, _, rfl, h5⟩
  have hys : ∃ q c, a.eval y = .slice q 0 c := by
    generalize a.eval y = cv at hvy
    generalize hu : deS v = u at hvy hs
    cases hs with
    | nil => cases hvy; exact ⟨_, _, rfl⟩
    | rd => cases hvy with
      | rd0 => exact ⟨_, _, rfl⟩
      | rd => exact ⟨_, _, rfl⟩
    | sl hB hle =>
      rename_i id r B
      obtain ⟨B', A', h2, hH, _⟩ := hrd id (by simp)
      obtain ⟨_, b, hb, _⟩ := hr.blk id B' A' hH
      cases hvy with
      | dangs _ hn => rw [hb] at hn; cases hn
      | sl => exact ⟨_, _, rfl⟩
      | sl0 => exact ⟨_, _, rfl⟩
  obtain ⟨base, n, cap, ex, hcap⟩ := hxs
  obtain ⟨q, c, ey⟩ := hys
  unfold ezero at hz
  split at hz
  · rename_i e he
    split at hz
    · rename_i i hi
      rw [ex] at hvx
      refine ⟨.slice base n cap, ?_, hvx⟩
      have := run_append0 (P := P) w t o.type e i he hi base q n cap c hcap
      simp only [execOp, ho, resolve, invoke, builtin, List.map_toArray, List.map_cons, List.map_nil, ex, ey, Sem.run_bind, Sem.run_pure, Result.andThen_ok, this]
    · cases hz
  · cases hz
theorem slc_goodE {t id r n c r' n' c' : Nat} {x : Operand} {lo hi : Option Operand} {B : Blk} {l h : Int} (ho : o.op = .slice t x lo hi none) (hB : get id = some B) (ht : esz P t = some B.sz) (hx : ev x = some (.slc id r n c))
    (hl : bound ev lo 0 = some l) (hh : bound ev hi n = some h) (h0 : 0 ≤ l) (h1 : l ≤ h) (h2 : h ≤ c) (e1 : r + l.toNat = r') (e2 : h.toNat - l.toNat = n') (e3 : c - l.toNat = c') : Good P Γ o ev get k ⟨.slc id r' n' c', k, [], [id]⟩ := by
  subst e1; subst e2; subst e3
  exact slc_good ho hB ht hx hl hh h0 h1 h2
theorem appin_goodE {x y : Operand} {t id n c m s by' nm : Nat} {zrow : List AVal} {B : Blk} {v : AVal} {rows : List (List AVal)} {p q : Bool} {ids : List Nat}
    (ho : o.op = .call { callee := .builtin .append, args := #[x, y], argTypes := #[t, t] }) (hz : ezero P t = some (s, by', zrow)) (hx : ev x = some (.slc id 0 n c)) (hB : get id = some B) (hBs : B.sz = s) (hy : ev y = some v) (hs : SrcA get (deS v) s m rows p ids)
    (hone : (rows.all fun row => row.all one) = true) (hm : 0 < m) (hroom : n + m ≤ c) (hr : n ≤ B.rows.length) (e1 : n + m = nm) (e2 : (B.pure && p) = q) :
    Good P Γ o ev get k ⟨.slc id 0 nm c, k, [(id, some ⟨B.sz, q, setRows B.rows rows n⟩)], id :: ids⟩ := by
  subst e1; subst e2
  exact appin_good ho hz hx hB hBs hy hs hone hm hroom hr
end
end Go.AM
end
section
namespace Go.AM
open Go
def Dec (w : World) (G : Nat → Prop) (vs : List AVal) (cs : List Value) : Prop :=
  vs.length = cs.length ∧ ∀ (j : Nat) (v : AVal), vs[j]? = some v → ∃ c, cs[j]? = some c ∧ V w G noNames noAllow v c
section
variable {H : Type} {enc : TypeId × Value → H} {P : Program} {w : World} {base : Nat} {sp : Nat → Bool} {held : Bool} {fuel : Nat} {t : TypeId} {cs : List Value} {x : DataW H × List MemPlace} {G : Nat → Prop}
theorem Dec.one {v : AVal} {c : Value} (h : V w G noNames noAllow v c) : Dec w G [v] [c] := ⟨rfl, fun j u hj => by
  match j with
  | 0 => cases hj; exact ⟨c, rfl, h⟩
  | j + 1 => simp at hj⟩
theorem Dec.app {a b : List AVal} {c d : List Value} (h : Dec w G a c) (k : Dec w G b d) : Dec w G (a ++ b) (c ++ d) := by
  refine ⟨by rw [List.length_append, List.length_append, h.1, k.1], fun j v hj => ?_⟩
  by_cases hlt : j < a.length
  · rw [List.getElem?_append_left hlt] at hj
    obtain ⟨e, he, hv⟩ := h.2 j v hj
    exact ⟨e, by rw [List.getElem?_append_left (by rw [← h.1]; exact hlt)]; exact he, hv⟩
  · rw [List.getElem?_append_right (by omega)] at hj
    obtain ⟨e, he, hv⟩ := k.2 _ v hj
    exact ⟨e, by rw [List.getElem?_append_right (by rw [← h.1]; omega), ← h.1]; exact he, hv⟩
theorem dec_int {k : IntKind} (ht : P.underlying t = some (.int k)) (h : DataW.trod enc P w base sp held fuel t cs = some x) : ∃ n, Dec w G [.lit (.int k n)] cs ∧ (Lit.int k n).wf = true := by
  obtain ⟨n, rfl, _, hw⟩ := DataW.trod_int ht h
  exact ⟨n, .one .lit, hw⟩
theorem dec_bool (ht : P.underlying t = some .bool) (h : DataW.trod enc P w base sp held fuel t cs = some x) : ∃ b, Dec w G [.lit (.bool b)] cs := by
  obtain ⟨b, rfl, _⟩ := DataW.trod_bool ht h
  exact ⟨b, .one .lit⟩
theorem add_add (a : Addr) (i j : Nat) (h : a.spot = none) : (a.add i).add j = ⟨a.block, a.off + i + j, none⟩ := by
  unfold Addr.add
  cases a
  simp only at h
  subst h
  by_cases hi : i = 0 <;> by_cases hj : j = 0 <;> simp [hi, hj]
theorem dec_slice {e : TypeId} {α : Type} (F : α → List AVal) (Q : α → Prop) (a0 : α) (h0 : Q a0) {sz : Nat} (hsz : 0 < sz) (ht : P.underlying t = some (.slice e)) (he : P.cellsOf e = sz)
    (hG : ∀ b, b < w.heap.size → G b)
    (hel : ∀ (n : Nat) (cs : List Value) (y : DataW H × List MemPlace), cs.length = sz → DataW.trod enc P w base sp held n e cs = some y → ∃ a, Q a ∧ Dec w G (F a) cs)
    (h : DataW.trod enc P w base sp held fuel t cs = some x) : ∃ (n : Nat) (f : Nat → α), (∀ i, Q (f i)) ∧ Dec w G [.rd sz n (fun i => F (f i))] cs := by
  rcases DataW.trod_slice ht h with ⟨rfl, _⟩ | ⟨a, len, cap, elems, rest, n, _, rfl, _, hb, hl, hm, hlen, hels, _, _⟩
  · exact ⟨0, fun _ => a0, fun _ => h0, .one .rd0⟩
  · by_cases hz : len = 0
    · subst hz; exact ⟨0, fun _ => a0, fun _ => h0, .one .rd0⟩
    · rw [he] at hels
      have each : ∀ i, i < len → ∃ ci y, w.cells? base (a.add (i * sz)) sz = some ci ∧ DataW.trod enc P w base sp held n e ci = some y := fun i hi => by
        have h1 := hels i hi
        rw [List.getElem?_eq_getElem (by omega), Option.bind_eq_some_iff] at h1
        obtain ⟨ci, h2, h3⟩ := h1
        exact ⟨ci, _, h2, h3⟩
      have each' : ∀ i, ∃ (ci : List Value) (q : α), Q q ∧ (i < len → w.cells? base (a.add (i * sz)) sz = some ci ∧ Dec w G (F q) ci) := fun i => by
        by_cases hi : i < len
        · obtain ⟨ci, y, h1, h2⟩ := each i hi
          obtain ⟨q, h3, h4⟩ := hel n ci y (World.cells?_some h1).2.1 h2
          exact ⟨ci, q, h3, fun _ => ⟨h1, h4⟩⟩
        · exact ⟨[], a0, h0, fun h => absurd h hi⟩
      let ci := fun i => Classical.choose (each' i)
      let f := fun i => Classical.choose (Classical.choose_spec (each' i))
      have hf : ∀ i, Q (f i) ∧ (i < len → w.cells? base (a.add (i * sz)) sz = some (ci i) ∧ Dec w G (F (f i)) (ci i)) := fun i => Classical.choose_spec (Classical.choose_spec (each' i))
      have hspot : a.spot = none := by
        have h1 := (World.cells?_some ((hf 0).2 (by omega)).1)
        have h2 := h1.2.2 0 hsz
        rw [Nat.zero_mul] at h2
        have h3 : a.add 0 = a := by simp [Addr.add]
        rw [h3, h3, List.getElem?_eq_getElem (by rw [h1.2.1]; exact hsz)] at h2
        unfold World.cell? at h2
        cases hs : a.spot with
        | none => rfl
        | some s => rw [hs] at h2; split at h2 <;> simp at h2
      have hcell : ∀ i j, i < len → j < sz → w.cell? ⟨a.block, a.off + i * sz + j, none⟩ = (ci i)[j]? := fun i j hi hj => by
        have h1 := (World.cells?_some ((hf i).2 hi).1).2.2 j hj
        rwa [add_add a _ _ hspot] at h1
      have hcl : ∀ i, i < len → (ci i).length = sz := fun i hi => (World.cells?_some ((hf i).2 hi).1).2.1
      have hFl : ∀ i, i < len → (F (f i)).length = sz := fun i hi => by rw [((hf i).2 hi).2.1, hcl i hi]
      have hblk : a.block < w.heap.size := by
        have h1 := hcell 0 0 (by omega) hsz
        rw [List.getElem?_eq_getElem (by rw [hcl 0 (by omega)]; exact hsz)] at h1
        by_cases hb : a.block < w.heap.size
        · exact hb
        · unfold World.cell? at h1
          simp only at h1
          rw [Array.getElem?_eq_none (by omega)] at h1; cases h1
      refine ⟨len, f, fun i => (hf i).1, .one ?_⟩
      have ea : a = ⟨a.block, a.off, none⟩ := by cases a; simp only at hspot; rw [hspot]
      rw [ea]
      refine .rd (fun i j => (ci i).getD j undef) (hG _ hblk) hl (by omega) hFl (fun i j v hi hj => ?_) (fun i j v hi hj => ?_)
      · obtain ⟨c, h1, h2⟩ := ((hf i).2 hi).2.2 j v hj
        have hj' : j < sz := by rw [← hcl i hi]; exact (List.getElem?_eq_some_iff.1 h1).1
        rw [hcell i j hi hj', h1]
        simp [List.getD_eq_getElem?_getD, h1]
      · obtain ⟨c, h1, h2⟩ := ((hf i).2 hi).2.2 j v hj
        simp only [List.getD_eq_getElem?_getD, h1, Option.getD_some]
        exact h2
theorem V.of_dec {vs : List AVal} {cs : Array Value} {ρ : Names} {A : Allow} (h : Dec w G vs cs.toList) : V w G ρ A (.agg vs) (.agg cs) := by
  have h1 : V w G noNames noAllow (.agg vs) (.agg cs) := .agg (by rw [h.1]; simp) fun j v hj => by
    obtain ⟨c, h2, h3⟩ := h.2 j v hj
    have : cs.getD j undef = c := by
      rw [Array.getElem?_toList] at h2
      simp [Array.getD_eq_getD_getElem?, h2]
    rw [this]; exact h3
  exact h1.mono (fun _ h => h) (fun _ _ => rfl) (fun _ _ => rfl) (fun _ h => h.elim) (fun _ h => h.elim)
end
end Go.AM
end
section
namespace Go.AM
open Go Go.RowKit
theorem keptBut_below {w w' : World} (h : Below w.heap.size w w') (may : MemPlace → Prop) : w.keptBut w' may := by
  refine ⟨h.os, h.output, fun i hi => ?_⟩
  rw [h.block i hi]
  cases w.heap[i]? with
  | none => rfl
  | some o => cases o <;> simp
end Go.AM
end
section
namespace Go.AM
open Go Go.RowKit
def GlobIs (w : World) (G : Nat → Prop) (g : Nat) (cells : List AVal) : Prop :=
  V w G noNames noAllow (.rp cells) (.pointer (some ⟨g, 0, none⟩)) ∧ G g ∧ ∃ C ty x, w.heap[g]? = some (.cells C ty x) ∧ C.size = cells.length
theorem Pure_calls {P : Program} {Γ : List (Nat × List AVal)} {f : FuncId} {vs : List AVal} {r : AVal} (hn : vs.all (bd fun _ => false) = true)
    (h : ∀ w G args, (∀ g cells, look Γ g = some cells → GlobIs w G g cells) → Vs w G noNames noAllow vs args →
      Calls P f args w fun e w' => ∃ cv, e = .returned cv ∧ Below w.heap.size w w' ∧ V w' (fun b => G b ∨ (w.heap.size ≤ b ∧ b < w'.heap.size)) noNames noAllow r cv) : Pure P Γ f vs r := fun k => by
  intro A hA w G ρ cargs hr hvs
  have hρ : ρ = noNames := funext fun id => hr.dom id rfl
  subst hρ
  have hv' : Vs w G noNames noAllow vs cargs := ⟨hvs.1, fun j u hj =>
    (V_bd (hvs.2 j u hj) (all_get hn hj)).mono (fun _ h => h) (fun _ _ => rfl) (fun _ _ => rfl) (fun i hi => by simp at hi) (fun _ _ => .inr rfl)⟩
  refine (h w G cargs hr.glob hv').mono ?_
  rintro e w' ⟨cv, rfl, hb, hv1⟩
  have hst : Step (below k) w G noNames w' (fun b => G b ∨ (w.heap.size ≤ b ∧ b < w'.heap.size)) noNames :=
    ⟨hb.size, fun b hlt _ => hb.block b hlt, fun b hlt => shp_of (hb.block b hlt), fun _ h => .inl h, fun b h => h.elim .inl (fun h => .inr (.inr h.1)), fun _ h => .inl h, fun _ _ => .inr rfl, hb.os, hb.tape, hb.output⟩
  exact ⟨cv, _, noNames, k, r, [], rfl, ⟨rfl, rfl, rfl⟩, Nat.le_refl _,
    ⟨fun _ _ => rfl, fun id B A' hid => by simp [ofHeap, look] at hid, hr.inj, fun b hb' => hb'.elim (fun h => Nat.lt_of_lt_of_le (hr.ro b h) hb.size) (fun h => h.2), glob_step hr hst⟩,
    hv1.mono (fun _ h => h) (fun _ _ => rfl) (fun _ _ => rfl) (fun _ h => h.elim) (fun _ _ => .inr rfl), hst⟩
theorem GlobIs.cell {w : World} {G : Nat → Prop} {g : Nat} {cells : List AVal} (h : GlobIs w G g cells) {j : Nat} {v : Value} (hj : cells[j]? = some (.lit v)) : w.cell? ⟨g, j, none⟩ = some v := by
  obtain ⟨hv, _⟩ := h
  cases hv with
  | rp gg hG hc hV =>
    have h1 := hc j _ hj
    have h2 := hV j _ hj
    rw [Nat.zero_add] at h1
    rw [h1]; cases h2; rfl
theorem GlobIs.tab {P : Program} {w : World} {G : Nat → Prop} {g : Nat} {name : String} {k : IntKind} {zs : List Int} (hg : P.globalNamed name = some g) (h : GlobIs w G g (zs.map fun z => .lit (.int k z))) : Lib.TabIs P w name k zs := by
  have hc := fun j (v : Value) => h.cell (j := j) (v := v)
  obtain ⟨_, _, C, ty, x, h3, h4⟩ := h
  unfold Lib.TabIs World.var?
  rw [hg, Option.bind_some, h3]
  refine congrArg some (Array.ext (by simpa using h4) fun i h1 h2 => ?_)
  have hi : i < zs.length := by simpa using h2
  have := hc i (.int k zs[i]) (by simp [hi])
  unfold World.cell? at this
  simp only [h3, Option.isSome_none, Bool.false_eq_true, if_false] at this
  rw [Array.getElem?_eq_getElem h1] at this
  simpa using this
theorem V_lit {w : World} {G : Nat → Prop} {ρ : Names} {A : Allow} {u cv : Value} (h : V w G ρ A (.lit u) cv) : cv = u := by cases h; rfl
theorem Vs_one {w : World} {G : Nat → Prop} {ρ : Names} {A : Allow} {u : Value} {cs : Array Value} (h : Vs w G ρ A [.lit u] cs) : cs = #[u] := by
  obtain ⟨h1, h2⟩ := h
  have e := V_lit (h2 0 _ rfl)
  have hs : cs.size = 1 := by simpa using h1.symm
  refine Array.ext (by simp [hs]) fun i hi hj => ?_
  have : i = 0 := by omega
  subst this
  rw [Array.getD_eq_getD_getElem?, Array.getElem?_eq_getElem hi] at e
  simpa using e
theorem Vs_two {w : World} {G : Nat → Prop} {ρ : Names} {A : Allow} {u v : Value} {cs : Array Value} (h : Vs w G ρ A [.lit u, .lit v] cs) : cs = #[u, v] := by
  obtain ⟨h1, h2⟩ := h
  have e := V_lit (h2 0 _ rfl)
  have e' := V_lit (h2 1 _ rfl)
  have hs : cs.size = 2 := by simpa using h1.symm
  refine Array.ext (by simp [hs]) fun i hi hj => ?_
  rw [Array.getD_eq_getD_getElem?] at e e'
  have : i = 0 ∨ i = 1 := by omega
  rcases this with rfl | rfl
  · rw [Array.getElem?_eq_getElem hi] at e; simpa using e
  · rw [Array.getElem?_eq_getElem hi] at e'; simpa using e'
end Go.AM
end
section
namespace Go.AM
open Go
section
variable {P : Program} {Γ : List (Nat × List AVal)}
theorem HRel.fz {w : World} {G : Nat → Prop} {ρ : Names} {H : Owner} {A : Allow} (hr : HRel Γ w G ρ H) : HRel Γ w (fun b => G b ∨ owned ρ b) noNames (ofHeap [] A) :=
  ⟨fun _ _ => rfl, fun id B A' hid => (by simp [ofHeap, look] at hid), fun i j b s t h => (by cases h), fun b hb => hb.elim (hr.ro b) (fun h => hr.owned_lt h), fun g cells hg => by
    obtain ⟨h1, h2, h3⟩ := hr.glob g cells hg
    exact ⟨h1.mono (fun _ h => .inl h) (fun _ _ => rfl) (fun _ _ => rfl) (fun _ h => h) (fun _ h => h.elim), .inl h2, h3⟩⟩
theorem Mv_le {kb k : Nat} {fr fr' : Fr} {H : Heap} (h : ∀ t v, look fr' t = some v → ∃ u, look fr t = some u ∧ VLe u v) : Mv kb k fr H k fr' H := fun hk => ⟨hk, fun Γ nt A0 w G ρ a hA hi =>
  ⟨G, ρ, ⟨hi.rel, hi.size, hi.defers, fun t v hv => by obtain ⟨u, hu, hle⟩ := h t v hv; exact hle _ _ _ _ _ (hi.frm t u hu)⟩, Step.refl _ _ _ _⟩⟩
theorem Pure_at0 {f : FuncId} {fn : Func} {args : List AVal} {r : AVal} (hf : P.funcs[f]? = some fn) (hb : fn.body.isSome = true) (nt : Nat) (hnt : fn.ntmps = nt) (hn : args.length ≤ nt) (ha : args.all (bd fun _ => false) = true) (hr : bd (fun _ => false) r = true)
    (h : W P Γ nt 0 (cat (bodyOf fn) []) (retQ P fn (fun _ r1 _ => VLe r1 r)) 0 (argFr 0 args) []) : Pure P Γ f args r := fun k => by
  have hT := Tr_at hf hb nt hnt hn h
  intro A hA w G ρ cargs hr0 hvs
  have hρ : ρ = noNames := funext fun id => hr0.dom id rfl
  subst hρ
  have hno : ∀ w1 G1 ρ1 A1 A2 u cu, V w1 G1 ρ1 A1 u cu → bd (fun _ => false) u = true → V w1 G1 ρ1 A2 u cu := fun w1 G1 ρ1 A1 A2 u cu h hb =>
    (V_bd h hb).mono (fun _ h => h) (fun _ _ => rfl) (fun _ _ => rfl) (fun i hi => by simp at hi) (fun _ _ => .inr rfl)
  refine (hT noAllow (fun i hi => hi.elim) w G noNames cargs ⟨fun _ _ => rfl, fun id B A' hid => by simp [ofHeap, look] at hid, hr0.inj, hr0.ro, hr0.glob⟩ ⟨hvs.1, fun j u hj => hno _ _ _ _ _ _ _ (hvs.2 j u hj) (all_get ha hj)⟩).mono ?_
  rintro e w' ⟨cv, G', ρ', k1, r1, H1, rfl, hle, hk1, hrel1, hv1, hst⟩
  refine ⟨cv, fun b => G' b ∨ owned ρ' b, noNames, k, r, [], rfl, ⟨rfl, rfl, rfl⟩, Nat.le_refl _, hrel1.fz, ?_, ⟨hst.size, hst.keep, hst.shape, fun b hb => .inl (hst.g b hb), fun b hb => hb.elim (hst.g' b) (fun h => .inr (hst.own b h)), fun b ⟨_, _, h⟩ => (by cases h), fun id _ => .inl rfl, hst.os, hst.tape, hst.output⟩⟩
  exact (V_bd (hle _ _ _ _ _ hv1) hr).mono (fun _ h => .inl h) (fun _ _ => rfl) (fun _ _ => rfl) (fun i hi => by simp at hi) (fun i hi => by simp at hi)
end
end Go.AM
end
section
namespace Go.AM
open Go
section
variable {P : Program} {Γ : List (Nat × List AVal)} {o : Oper} {ev : Operand → Option AVal} {get : Nat → Option Blk} {k : Nat}
theorem slcNil_good {t ty e id r n c : Nat} {x y : Operand} {B : Blk} (ho : o.op = .binOp .eql t x y ty) (he : P.underlying t = some (.slice e)) (hx : ev x = some (.slc id r n c)) (hB : get id = some B) (hy : ev y = some (.lit (.slice none 0 0))) :
    Good P Γ o ev get k ⟨.lit (.bool false), k, [], [id]⟩ := by
  refine ⟨OpOk_quiet fun w G ρ H A a hr hrd hop => ⟨.bool false, ?_, .lit⟩, fun id' hid => by simp at hid; rw [hid, hB]; rfl, Nat.le_refl _⟩
  obtain ⟨B', A', h3, hH, _⟩ := hrd id (by simp)
  rw [hB] at h3; cases h3
  have hvx := hop x (by simp [ho, Op.operands]) _ hx
  have hvy := V_bool (hop y (by simp [ho, Op.operands]) _ hy)
  obtain ⟨b, off, C, ty', hev, _⟩ := slc_spec hr hH hvx
  obtain ⟨h1, _, h2, _⟩ := nilEq_sl (P := P) he ⟨b, off, none⟩ n c 0 0 w
  simp [execOp, ho, hev, hvy, h1, h2]
end
theorem Mv_tmp {kb k : Nat} {fr : Fr} {H : Heap} (t : Nat) {u v : AVal} (hf : look fr t = some u) (hv : VLe u v) : Mv kb k fr H k ((t, v) :: del fr t) H := Mv_le fun t' z hz => by
  simp only [look] at hz
  split at hz
  · rename_i e; subst e; cases hz; exact ⟨u, hf, hv⟩
  · rw [look_del] at hz
    split at hz
    · cases hz
    · exact ⟨z, hz, VLe.refl _⟩
end Go.AM
end
section
namespace Go.AM
open Go
abbrev Ents := List (Int × Value × Nat)
def entV (q : IntKind) (e : Int × Value × Nat) : MapEntry := { key := .int q e.1, val := e.2.1, born := e.2.2 }
def entR (q : IntKind) (e : Int × Value × Nat) : List AVal := [.lit (.int q e.1), .lit e.2.1, .lit (.int .i64 e.2.2)]
def mapB (q : IntKind) (l : Ents) (clock : Nat) : Blk := ⟨3, true, [.lit (.int .i64 clock), .lit (.int .i64 l.length), .lit (.int .i64 1)] :: l.map (entR q)⟩
theorem flat3 {α : Type} {f : α → List Value} (hf : ∀ x, (f x).length = 3) : ∀ (l : List α) (r c : Nat), c < 3 → (l.flatMap f)[r * 3 + c]? = (l[r]?).bind fun x => (f x)[c]?
  | [], r, c, _ => by simp
  | x :: l, 0, c, h => by
    rw [List.flatMap_cons, Nat.zero_mul, Nat.zero_add, List.getElem?_append_left (by rw [hf]; exact h)]; rfl
  | x :: l, r + 1, c, h => by
    rw [List.flatMap_cons, List.getElem?_append_right (by rw [hf]; omega), hf]
    have e : (r + 1) * 3 + c - 3 = r * 3 + c := by omega
    rw [e, flat3 hf l r c h]; rfl
theorem mapL_at (es : List MapEntry) (clock r c : Nat) (h : c < 3) : (mapL es clock)[(r + 1) * 3 + c]? = (es[r]?).bind fun e => [e.key, e.val, Value.int .i64 e.born][c]? := by
  have e : (r + 1) * 3 + c = r * 3 + c + 1 + 1 + 1 := by omega
  rw [e]
  simp only [mapL, List.getElem?_cons_succ]
  exact flat3 (fun _ => rfl) es r c h
theorem map_at {w : World} {G : Nat → Prop} {ρ : Names} {A : Allow} {q : IntKind} {l : Ents} {clock b : Nat} (h : BRel w G ρ A (mapB q l clock) b) (hs : shp w b = some none) :
    ∃ es : Array MapEntry, w.heap[b]? = some (.map es clock) ∧ es.toList = l.map (entV q) := by
  obtain ⟨⟨C, o, ⟨hC, hO⟩, hrows⟩, hlen⟩ := h
  have lit : ∀ r row c v, (mapB q l clock).rows[r]? = some row → row[c]? = some (.lit v) → C[r * 3 + c]? = some v := fun r row c v h1 h2 => by
    obtain ⟨cv, h3, h4⟩ := hrows r row c _ h1 h2
    cases h4; exact h3
  have e0 := lit 0 _ 0 _ rfl rfl
  have e1 := lit 0 _ 1 _ rfl rfl
  have e2 := lit 0 _ 2 _ rfl rfl
  cases hO with
  | cells => simp [shp, hC] at hs
  | iter => simp [iterL] at e2
  | @map es clock' =>
    simp [mapL] at e0 e1
    have hclk : clock' = clock := by omega
    have hln : es.size = l.length := by omega
    subst hclk
    refine ⟨es, hC, List.ext_getElem? fun r => ?_⟩
    by_cases hr : r < l.length
    · have hrow : (mapB q l clock').rows[r + 1]? = some (entR q l[r]) := by
        simp [mapB, List.getElem?_eq_getElem hr]
      have a0 := lit (r + 1) _ 0 _ hrow rfl
      have a1 := lit (r + 1) _ 1 _ hrow rfl
      have a2 := lit (r + 1) _ 2 _ hrow rfl
      rw [List.getElem?_toArray, mapL_at _ _ _ _ (by omega)] at a0 a1 a2
      have hx : es.toList[r]? = some (es[r]'(by omega)) := by rw [Array.getElem?_toList, Array.getElem?_eq_getElem]
      rw [hx] at a0 a1 a2 ⊢
      rw [List.getElem?_map, List.getElem?_eq_getElem hr]
      simp at a0 a1 a2
      simp only [Option.map_some, entV]
      congr 1
      rw [← a0, ← a1]
      have : (es[r]'(by omega)).born = l[r].2.2 := by omega
      rw [← this]
    · rw [List.getElem?_eq_none (by simp; omega), List.getElem?_eq_none (by simp; omega)]
theorem map_rel {w : World} {G : Nat → Prop} {ρ : Names} {A : Allow} {q : IntKind} {l : Ents} {clock : Nat} {es : Array MapEntry} (he : es.toList = l.map (entV q)) :
    (∀ (r : Nat) row, (mapB q l clock).rows[r]? = some row → row.length = (mapB q l clock).sz) ∧
    ∀ r row c v, (mapB q l clock).rows[r]? = some row → row[c]? = some v → ∃ cv, (mapL es.toList clock).toArray[r * (mapB q l clock).sz + c]? = some cv ∧ V w G (if (mapB q l clock).pure then noNames else ρ) (if (mapB q l clock).pure then noAllow else A) v cv := by
  constructor
  · intro r row h
    cases r with
    | zero => cases h; rfl
    | succ r =>
      simp only [mapB, List.getElem?_cons_succ, List.getElem?_map, Option.map_eq_some_iff] at h
      obtain ⟨e, _, rfl⟩ := h
      rfl
  · intro r row c v h1 h2
    show ∃ cv, (mapL es.toList clock).toArray[r * 3 + c]? = some cv ∧ V w G noNames noAllow v cv
    rw [List.getElem?_toArray]
    cases r with
    | zero =>
      cases h1
      have hl : es.toList.length = l.length := by rw [he]; simp
      match c, h2 with
      | 0, h2 => cases h2; exact ⟨_, rfl, .lit⟩
      | 1, h2 => cases h2; exact ⟨_, by simp only [mapL, hl]; rfl, .lit⟩
      | 2, h2 => cases h2; exact ⟨_, rfl, .lit⟩
      | c + 3, h2 => simp at h2
    | succ r =>
      simp only [mapB, List.getElem?_cons_succ, List.getElem?_map, Option.map_eq_some_iff] at h1
      obtain ⟨e, h1, rfl⟩ := h1
      have hc : c < 3 := by
        have := (List.getElem?_eq_some_iff.1 h2).1
        simpa [entR] using this
      rw [mapL_at _ _ _ _ hc, he, List.getElem?_map, h1]
      match c, h2 with
      | 0, h2 => cases h2; exact ⟨_, rfl, .lit⟩
      | 1, h2 => cases h2; exact ⟨_, rfl, .lit⟩
      | 2, h2 => cases h2; exact ⟨_, rfl, .lit⟩
      | c + 3, h2 => omega
section
variable {P : Program} {Γ : List (Nat × List AVal)} {o : Oper} {ev : Operand → Option AVal} {get : Nat → Option Blk} {k : Nat}
theorem map_write {w w' : World} {G : Nat → Prop} {ρ : Names} {H : Owner} {A A' : Allow} {q : IntKind} {id b : Nat} {l l' : Ents} {clock clock' : Nat} {es es' : Array MapEntry}
    (hr : HRel Γ w G ρ H) (hH : H id = some (mapB q l clock, A')) (hAA : ∀ i, A' i → A i) (hb : ρ id = some (b, 3)) (hm : w.heap[b]? = some (.map es clock)) (he : es'.toList = l'.map (entV q))
    (hw : w'.heap = w.heap.setIfInBounds b (.map es' clock')) (h1 : w'.os = w.os) (h2 : w'.tape = w.tape) (h3 : w'.output = w.output) :
    HRel Γ w' G ρ (updO H (fun i => A i ∨ (k ≤ i ∧ i < k)) [(id, some (mapB q l' clock'))]) ∧ Step (fun i => ¬ (k ≤ i ∧ i < k)) w G ρ w' G ρ := by
  have hbl : b < w.heap.size := (Array.getElem?_eq_some_iff.1 hm).1
  have hnew : w'.heap[b]? = some (.map es' clock') := by rw [hw]; simp [hbl]
  have hoth : ∀ j, j ≠ b → w'.heap[j]? = w.heap[j]? := fun j hj => by rw [hw, Array.getElem?_setIfInBounds_ne (Ne.symm hj)]
  have hA := (hr.blk id _ A' hH).1
  have hrel := map_rel (w := w) (G := G) (ρ := ρ) (A := A) (clock := clock') he
  obtain ⟨g1, g2⟩ := hr.rewriteO (B := mapB q l clock) hb id (.inl rfl) (mapB q l' clock') rfl _ (.map es' clock') .map A (fun i => A i ∨ (k ≤ i ∧ i < k)) (.inl rfl) (fun _ h => .inl h) (.inl (hAA _ hA))
    w' hnew hoth (by rw [hw]; simp) (by simp [shp, hnew, hm]) h1 h2 h3 hrel.1 hrel.2
  have hnm : setN (setN ρ id none) id (some (b, 3)) = ρ := funext fun i => by
    simp only [setN]; split
    · rename_i he; rw [he, hb]
    · rfl
  rw [show (mapB q l clock).sz = 3 from rfl, hnm] at g1 g2
  have hup : updO H (fun i => A i ∨ (k ≤ i ∧ i < k)) [(id, some (mapB q l' clock')), (id, none)] = updO H (fun i => A i ∨ (k ≤ i ∧ i < k)) [(id, some (mapB q l' clock'))] := funext fun i => by
    simp only [updO]; split <;> simp_all
  rw [hup] at g1
  exact ⟨g1, ⟨g2.size, g2.keep, g2.shape, g2.g, g2.g', g2.own, fun i _ => g2.ids i (Or.inr rfl), g2.os, g2.tape, g2.output⟩⟩
def lit1 : AVal → Option Value
  | .lit v => some v
  | _ => none
def aggOf : AVal → Option Value
  | .lit v => some v
  | .agg cs => (cs.mapM lit1).map fun (l : List Value) => Value.agg l.toArray
  | _ => none
theorem aggOf_V {w : World} {G : Nat → Prop} {ρ : Names} {A : Allow} {v : AVal} {cv x : Value} (h : V w G ρ A v cv) (hl : aggOf v = some x) : cv = x := by
  cases h with
  | lit => simpa [aggOf] using hl
  | @agg _ _ cells cs h1 h2 =>
    simp only [aggOf, Option.map_eq_some_iff] at hl
    obtain ⟨l, hl, rfl⟩ := hl
    have hlen := Lib.mapM_length hl
    congr 1
    refine Array.ext (by simp; omega) fun i hi hi' => ?_
    have hic : i < cells.length := by omega
    obtain ⟨u, h3, h4⟩ := Lib.mapM_at hl i cells[i] (List.getElem?_eq_getElem hic)
    have h5 := h2 i _ (List.getElem?_eq_getElem hic)
    generalize cells[i] = c at h4 h5
    cases c with
    | lit y =>
      have hy : u = y := by simpa [lit1] using h4.symm
      subst hy
      have h6 : cs.getD i undef = u := by cases h5; rfl
      rw [Array.getD_eq_getD_getElem?, Array.getElem?_eq_getElem hi] at h6
      have h7 : l[i]? = some u := h3
      rw [List.getElem?_eq_getElem (by simpa using hi')] at h7
      simp at h6 h7
      simp [h6, h7]
    | _ => cases h4
  | _ => simp [aggOf] at hl
def findM (l : Ents) (n : Int) : Option Value := (l.find? fun e => e.1 == n).map (·.2.1)
def delM (l : Ents) (n : Int) : Ents := l.filter fun e => !(e.1 == n)
def UKeys (l : Ents) : Prop := (l.map (·.1)).Nodup
theorem findM_none {l : Ents} {n : Int} (h : ∀ e ∈ l, e.1 ≠ n) : findM l n = none := by
  unfold findM
  rw [List.find?_eq_none.2 (fun e he => by simpa using h e he)]; rfl
theorem findM_some {l : Ents} {n : Int} (hu : UKeys l) {j : Nat} {e : Int × Value × Nat} (hj : l[j]? = some e) (he : e.1 = n) : findM l n = some e.2.1 := by
  induction l generalizing j with
  | nil => simp at hj
  | cons a l ih =>
    simp only [UKeys, List.map_cons, List.nodup_cons] at hu
    cases j with
    | zero => cases hj; simp [findM, he]
    | succ j =>
      have h1 : l[j]? = some e := hj
      have h2 : a.1 ≠ n := fun h => hu.1 (h ▸ he ▸ List.mem_map.2 ⟨e, List.mem_of_getElem? h1, rfl⟩)
      have := ih hu.2 h1
      simpa [findM, h2] using this
theorem delM_none {l : Ents} {n : Int} (h : ∀ e ∈ l, e.1 ≠ n) : delM l n = l := List.filter_eq_self.2 fun e he => by simpa using h e he
theorem delM_some {l : Ents} {n : Int} (hu : UKeys l) {j : Nat} {e : Int × Value × Nat} (hj : l[j]? = some e) (he : e.1 = n) : delM l n = l.eraseIdx j := by
  induction l generalizing j with
  | nil => simp at hj
  | cons a l ih =>
    simp only [UKeys, List.map_cons, List.nodup_cons] at hu
    cases j with
    | zero =>
      cases hj
      have : delM l n = l := delM_none fun x hx h => hu.1 (he ▸ h ▸ List.mem_map.2 ⟨x, hx, rfl⟩)
      simpa [delM, he] using this
    | succ j =>
      have h1 : l[j]? = some e := hj
      have h2 : a.1 ≠ n := fun h => hu.1 (h ▸ he ▸ List.mem_map.2 ⟨e, List.mem_of_getElem? h1, rfl⟩)
      have := ih hu.2 h1
      simp only [delM] at this ⊢
      rw [List.filter_cons_of_pos (by simpa using h2), this]; rfl
theorem era_map {α β : Type} (f : α → β) : ∀ (l : List α) (j : Nat), (l.eraseIdx j).map f = (l.map f).eraseIdx j
  | [], j => by simp
  | a :: l, 0 => rfl
  | a :: l, j + 1 => by simp [era_map f l j]
structure MapT (P : Program) (t kt et : TypeId) (q : IntKind) (z : Value) : Prop where
  t : P.underlying t = some (.map kt et)
  k : P.underlying kt = some (.int q)
  z : (P.info? et).bind (·.zero) = some z
theorem MapT.zero {t kt et : TypeId} {q : IntKind} {z : Value} (h : MapT P t kt et q z) (w : World) : (zeroValue et).run P w = .ok z w := by
  have := h.z
  simp only [Option.bind_eq_some_iff] at this
  obtain ⟨i, h1, h2⟩ := this
  simp [zeroValue, typeInfo, h1, h2]
def wfK (q : IntKind) (n : Int) : Bool := (Lit.int q n).wf
theorem find_ents {kt : TypeId} {q : IntKind} (hk : P.underlying kt = some (.int q)) {l : Ents} (hl : ∀ e ∈ l, wfK q e.1 = true) {n : Int} (hn : wfK q n = true) (w : World) :
    ((Instr.findKey kt (.int q n) (l.map (entV q))).run P w = .ok none w ∧ ∀ e ∈ l, e.1 ≠ n) ∨
    ∃ j e, (Instr.findKey kt (.int q n) (l.map (entV q))).run P w = .ok (some (j, e.2.1)) w ∧ l[j]? = some e ∧ e.1 = n := by
  rcases (Maps.int_keyed hk).find w (Maps.keyOf_int_mk hk hn) (l.map (entV q)) (fun x hx => by
    obtain ⟨e, he, rfl⟩ := List.mem_map.1 hx
    exact ⟨_, Maps.keyOf_int_mk hk (hl e he)⟩) with ⟨h1, h2⟩ | ⟨j, x, h1, h2, h3⟩
  · refine .inl ⟨h1, fun e he hc => h2 _ (List.mem_map.2 ⟨e, he, rfl⟩) (by simp [entV, hc])⟩
  · rw [List.getElem?_map, Option.map_eq_some_iff] at h2
    obtain ⟨e, h4, rfl⟩ := h2
    exact .inr ⟨j, e, h1, h4, by simpa [entV] using h3⟩
theorem look_good {t kt et id : Nat} {q : IntKind} {z : Value} {m x : Operand} {n : Int} {l : Ents} {clock : Nat} (ho : o.op = .lookup t m x true) (ht : MapT P t kt et q z) (hm : ev m = some (.mp id)) (hx : ev x = some (.lit (.int q n)))
    (hB : get id = some (mapB q l clock)) (hl : ∀ e ∈ l, wfK q e.1 = true) (hn : wfK q n = true) (hu : UKeys l) : Good P Γ o ev get k ⟨.tup [.lit ((findM l n).getD z), .lit (.bool (findM l n).isSome)], k, [], [id]⟩ := by
  refine ⟨OpOk_quiet fun w G ρ H A a hr hrd hop => ?_, fun i hi => by simp at hi; rw [hi, hB]; rfl, Nat.le_refl _⟩
  have hvm := hop m (by simp [ho, Op.operands]) _ hm
  have hvx := V_lit (hop x (by simp [ho, Op.operands]) _ hx)
  obtain ⟨B', A', h2, hH, _⟩ := hrd id (by simp)
  rw [hB] at h2; cases h2
  obtain ⟨_, b, hb, _, hBR⟩ := hr.blk id _ A' hH
  generalize hev : a.eval m = cv at hvm
  cases hvm with
  | dangm _ hn' => rw [hb] at hn'; cases hn'
  | mp ha hρ hsh =>
    rw [hb] at hρ; cases hρ
    obtain ⟨es, hes, hel⟩ := map_at hBR hsh
    refine ⟨.tuple #[(findM l n).getD z, .bool (findM l n).isSome], ?_, .tup rfl fun j v hj => ?_⟩
    · rcases find_ents ht.k hl hn w with ⟨h3, h4⟩ | ⟨j, e, h3, h4, h5⟩
      · rw [findM_none h4]
        rw [← hel] at h3
        simp [execOp, ho, hev, hvx, Instr.lookup, run_underlying ht.t, MapKept.run_getObj_map hes, (Maps.int_keyed ht.k).check w _ (Maps.keyOf_int_mk ht.k hn), h3, ht.zero, Result.andThen]
      · rw [findM_some hu h4 h5]
        rw [← hel] at h3
        simp [execOp, ho, hev, hvx, Instr.lookup, run_underlying ht.t, MapKept.run_getObj_map hes, (Maps.int_keyed ht.k).check w _ (Maps.keyOf_int_mk ht.k hn), h3, Result.andThen]
    · match j, hj with
      | 0, hj => cases hj; exact .lit
      | 1, hj => cases hj; exact .lit
      | j + 2, hj => simp at hj
theorem put_good {t kt et id : Nat} {q : IntKind} {z : Value} {m x y : Operand} {n : Int} {l : Ents} {clock : Nat} {av : AVal} {v : Value} (ho : o.op = .mapUpdate t m x y) (ht : MapT P t kt et q z) (hm : ev m = some (.mp id))
    (hx : ev x = some (.lit (.int q n))) (hy : ev y = some av) (hv : aggOf av = some v) (hB : get id = some (mapB q l clock)) (hl : ∀ e ∈ l, wfK q e.1 = true) (hn : wfK q n = true) (hf : ∀ e ∈ l, e.1 ≠ n) :
    Good P Γ o ev get k ⟨.junk, k, [(id, some (mapB q (l ++ [(n, v, clock)]) (clock + 1)))], [id]⟩ := by
  refine ⟨fun w G ρ H A a hr hA hfr hrd hop next Q hN => ?_, fun i hi => by simp at hi; rw [hi, hB]; rfl, Nat.le_refl _⟩
  have hvm := hop m (by simp [ho, Op.operands]) _ hm
  have hvx := V_lit (hop x (by simp [ho, Op.operands]) _ hx)
  have hvy := aggOf_V (hop y (by simp [ho, Op.operands]) _ hy) hv
  obtain ⟨B', A', h2, hH, hAA⟩ := hrd id (by simp)
  rw [hB] at h2; cases h2
  obtain ⟨_, b, hb, _, hBR⟩ := hr.blk id _ A' hH
  generalize hev : a.eval m = cv at hvm
  cases hvm with
  | dangm _ hn' => rw [hb] at hn'; cases hn'
  | mp ha hρ hsh =>
    rw [hb] at hρ; cases hρ
    obtain ⟨es, hes, hel⟩ := map_at hBR hsh
    rcases find_ents ht.k hl hn w with ⟨h3, h4⟩ | ⟨j, e, h3, h4, h5⟩
    · rw [← hel] at h3
      have hrun : (execOp a.eval o).run P w = .ok .skip { w with heap := w.heap.setIfInBounds b (.map (es.push ⟨.int q n, v, clock⟩) (clock + 1)) } := by
        simp [execOp, ho, hev, hvx, hvy, Instr.mapUpdate, run_underlying ht.t, MapKept.run_getObj_map hes, (Maps.int_keyed ht.k).check w _ (Maps.keyOf_int_mk ht.k hn), h3, MapKept.run_setObj_map _ hes, Result.andThen]
      obtain ⟨g1, g2⟩ := map_write (k := k) (l' := l ++ [(n, v, clock)]) (clock' := clock + 1) (es' := es.push ⟨.int q n, v, clock⟩) (w' := { w with heap := w.heap.setIfInBounds b (.map (es.push ⟨.int q n, v, clock⟩) (clock + 1)) }) hr hH hAA hb hes (by simp [hel, entV]) rfl rfl rfl rfl
      unfold Oper.wp
      rw [hrun]
      exact hN _ G ρ undef g1 .junk g2
    · exact absurd h5 (hf e (List.mem_of_getElem? h4))
theorem del_good {t kt et id : Nat} {q : IntKind} {z : Value} {m x : Operand} {n : Int} {l : Ents} {clock : Nat} (ho : o.op = .call { callee := .builtin .delete, args := #[m, x], argTypes := #[t, kt] }) (ht : MapT P t kt et q z) (hm : ev m = some (.mp id))
    (hx : ev x = some (.lit (.int q n))) (hB : get id = some (mapB q l clock)) (hl : ∀ e ∈ l, wfK q e.1 = true) (hn : wfK q n = true) (hu : UKeys l) :
    Good P Γ o ev get k ⟨.lit (.tuple #[]), k, [(id, some (mapB q (delM l n) clock))], [id]⟩ := by
  refine ⟨fun w G ρ H A a hr hA hfr hrd hop next Q hN => ?_, fun i hi => by simp at hi; rw [hi, hB]; rfl, Nat.le_refl _⟩
  have hvm := hop m (by simp [ho, Op.operands, Call.operands]) _ hm
  have hvx := V_lit (hop x (by simp [ho, Op.operands, Call.operands]) _ hx)
  obtain ⟨B', A', h2, hH, hAA⟩ := hrd id (by simp)
  rw [hB] at h2; cases h2
  obtain ⟨_, b, hb, _, hBR⟩ := hr.blk id _ A' hH
  generalize hev : a.eval m = cv at hvm
  cases hvm with
  | dangm _ hn' => rw [hb] at hn'; cases hn'
  | mp ha hρ hsh =>
    rw [hb] at hρ; cases hρ
    obtain ⟨es, hes, hel⟩ := map_at hBR hsh
    have key : ∃ es' : Array MapEntry, es'.toList = (delM l n).map (entV q) ∧ (execOp a.eval o).run P w = .ok (.value (.tuple #[])) { w with heap := w.heap.setIfInBounds b (.map es' clock) } := by
      rcases find_ents ht.k hl hn w with ⟨h3, h4⟩ | ⟨j, e, h3, h4, h5⟩
      · rw [← hel] at h3
        refine ⟨es, by rw [delM_none h4, hel], ?_⟩
        simp [execOp, ho, resolve, invoke, builtin, hev, hvx, Builtin.delete_, run_underlying ht.t, MapKept.run_getObj_map hes, (Maps.int_keyed ht.k).check w _ (Maps.keyOf_int_mk ht.k hn), h3, MapKept.run_setObj_map _ hes, Result.andThen]
      · rw [← hel] at h3
        have hjl : j < es.size := by
          have h6 := (List.getElem?_eq_some_iff.1 h4).1
          have h7 : es.toList.length = l.length := by rw [hel]; simp
          simp at h7; omega
        refine ⟨es.eraseIdxIfInBounds j, ?_, ?_⟩
        · unfold Array.eraseIdxIfInBounds
          rw [dif_pos hjl, delM_some hu h4 h5]
          simp only [hel, Array.toList_eraseIdx]; exact (era_map _ _ _).symm
        · simp [execOp, ho, resolve, invoke, builtin, hev, hvx, Builtin.delete_, run_underlying ht.t, MapKept.run_getObj_map hes, (Maps.int_keyed ht.k).check w _ (Maps.keyOf_int_mk ht.k hn), h3, MapKept.run_setObj_map _ hes, Result.andThen]
    obtain ⟨es', he', hrun⟩ := key
    obtain ⟨g1, g2⟩ := map_write (k := k) (l' := delM l n) (clock' := clock) (es' := es') (w' := { w with heap := w.heap.setIfInBounds b (.map es' clock) }) hr hH hAA hb hes he' rfl rfl rfl rfl
    unfold Oper.wp
    rw [hrun]
    exact hN _ G ρ _ g1 .lit g2
theorem makeM_good {t : Nat} (q : IntKind) (ho : o.op = .makeMap t none) : Good P Γ o ev get k ⟨.mp k, k + 1, [(k, some (mapB q [] 0))], []⟩ := by
  refine ⟨fun w G ρ H A a hr hA hfr hrd hop next Q hN => ?_, fun i hi => by simp at hi, Nat.le_succ _⟩
  obtain ⟨hρ, hf⟩ := hfr k (Nat.le_refl _) (Nat.lt_succ_self _)
  have hkA : ¬ A k := fun hk => Nat.lt_irrefl _ (hA k hk)
  have hrun : (execOp a.eval o).run P w = .ok (.value (.map (some w.heap.size))) (w.alloc (.map #[] 0)) := by
    have hmm : (Instr.makeMap t none).run P w = .ok (.map (some w.heap.size)) (w.alloc (.map #[] 0)) := rfl
    simp [execOp, ho, hmm]
  have hrows := map_rel (w := w) (G := G) (ρ := ρ) (A := A) (q := q) (l := []) (clock := 0) (es := #[]) rfl
  have hrel := hr.allocO k hρ hf (mapB q [] 0) _ (.map #[] 0) .map A (fun i => A i ∨ (k ≤ i ∧ i < k + 1)) hkA (fun _ h => .inl h) (.inr ⟨Nat.le_refl _, Nat.lt_succ_self _⟩) hrows.1 hrows.2 w rfl rfl rfl rfl
  have hst := step_alloc (w := w) (G := G) (ρ := ρ) k 3 (.map #[] 0) w rfl rfl rfl rfl
  unfold Oper.wp
  rw [hrun]
  refine hN _ G _ _ hrel (.mp (b := w.heap.size) (s := 3) (.inr ⟨Nat.le_refl _, Nat.lt_succ_self _⟩) (by simp [setN]; rfl) ?_) ⟨hst.size, hst.keep, hst.shape, hst.g, hst.g', hst.own, fun i hi => hst.ids i (fun he => hi (show k ≤ i ∧ i < k + 1 by omega)), hst.os, hst.tape, hst.output⟩
  show shp (w.alloc (.map #[] 0)) w.heap.size = some none
  have h9 := heap_push_new w (.map #[] 0)
  unfold shp
  rw [h9]; rfl
end
end Go.AM
end
