import Derived.Test.YtbajbdfjpndkdaaDoorZAE
import Derived.Test.YtbajbdfjpndkdaaDoorProg
import Derived.KernelRfl
import Derived.Laws.Bits64

section
set_option linter.unusedVariables false
set_option linter.unusedSimpArgs false
namespace Go.AM
open Go.Proofs
set_option maxRecDepth 100000
@[go_sem] theorem y1 : callable Tryd.prog 1 = false := by kernel_rfl
@[go_sem] theorem y2 : arr Tryd.prog 30 = none := by kernel_rfl
@[go_sem] theorem y3 : tagg Tryd.prog 30 = some true := by kernel_rfl
@[go_sem] theorem y4 : tsz Tryd.prog 30 = some 7 := by kernel_rfl
@[go_sem] theorem y5 : callable Tryd.prog 5 = true := by kernel_rfl
@[go_sem] theorem y6 : callable Tryd.prog 6 = true := by kernel_rfl
@[go_sem] theorem y7 : callable Tryd.prog 7 = true := by kernel_rfl
@[go_sem] theorem y8 : callable Tryd.prog 8 = true := by kernel_rfl
@[go_sem] theorem y9 : callable Tryd.prog 9 = true := by kernel_rfl
@[go_sem] theorem y10 : zcells Tryd.prog 30 = some [AVal.lit (Value.int IntKind.i64 0), AVal.lit (Value.int IntKind.u64 0), AVal.lit (Value.slice none 0 0), AVal.lit (Value.slice none 0 0), AVal.lit (Value.slice none 0 0), AVal.lit (Value.slice none 0 0), AVal.lit (Value.slice none 0 0)] := by kernel_rfl
@[go_sem] theorem y11 : callable Tryd.prog 11 = true := by kernel_rfl
@[go_sem] theorem y12 : callable Tryd.prog 12 = true := by kernel_rfl
@[go_sem] theorem y13 : callable Tryd.prog 10 = true := by kernel_rfl
@[go_sem] theorem y14 : callable Tryd.prog 13 = true := by kernel_rfl
@[go_sem] theorem y15 : placesOf Tryd.prog 30 = some { toList := [(0, 3), (3, 1), (4, 1), (5, 1), (6, 1)] } := by kernel_rfl
@[go_sem] theorem y16 : isStructT Tryd.prog 30 = true := by kernel_rfl
@[go_sem] theorem y17 : arrE Tryd.prog 30 = none := by kernel_rfl
@[go_sem] theorem y18 : callable Tryd.prog 15 = true := by kernel_rfl
@[go_sem] theorem y19 : ezero Tryd.prog 41 = some (1, 16, [AVal.lit (Value.string { data := { toList := [] } })]) := by kernel_rfl
@[go_sem] theorem ap_41 {H0 : Heap} {k id : Nat} {l : List (List AVal)} {y : Option AVal} (hin : accIn H0 id 1 l) (hid : id < k) : aAppend Tryd.prog (AM.look H0) k 41 (some (accV id l)) y = appR 1 16 k id l (y.bind (aSrc (AM.look H0))) := app_acc y19 hin hid
@[go_sem] theorem ln_41 {H0 : Heap} {k id : Nat} {l : List (List AVal)} (hin : accIn H0 id 1 l) : lenO Tryd.prog (AM.look H0) k 41 (some (accV id l)) = some ⟨.lit (.int .i64 (l.length : Int)), k, [], accRds id l⟩ := len_acc (by kernel_rfl) hin
@[go_sem] theorem y20 : callable Tryd.prog 14 = true := by kernel_rfl
@[go_sem] theorem y21 : callable Tryd.prog 16 = true := by kernel_rfl
@[go_sem] theorem y22 : isSliceT Tryd.prog 36 = true := by kernel_rfl
@[go_sem] theorem y23 : isStrT Tryd.prog 36 = false := by kernel_rfl
@[go_sem] theorem y24 : tagOf Tryd.prog 3 = some 0 := by kernel_rfl
@[go_sem] theorem y25 : eqOffs Tryd.prog 3 = none := by kernel_rfl
@[go_sem] theorem y26 : refT Tryd.prog 3 = none := by kernel_rfl
@[go_sem] theorem y27 : ezero Tryd.prog 26 = some (1, 8, [AVal.lit (Value.int IntKind.i64 0)]) := by kernel_rfl
@[go_sem] theorem ap_26 {H0 : Heap} {k id : Nat} {l : List (List AVal)} {y : Option AVal} (hin : accIn H0 id 1 l) (hid : id < k) : aAppend Tryd.prog (AM.look H0) k 26 (some (accV id l)) y = appR 1 8 k id l (y.bind (aSrc (AM.look H0))) := app_acc y27 hin hid
@[go_sem] theorem ln_26 {H0 : Heap} {k id : Nat} {l : List (List AVal)} (hin : accIn H0 id 1 l) : lenO Tryd.prog (AM.look H0) k 26 (some (accV id l)) = some ⟨.lit (.int .i64 (l.length : Int)), k, [], accRds id l⟩ := len_acc (by kernel_rfl) hin
@[go_sem] theorem y28 : fieldOff Tryd.prog 30 1 = some 3 := by kernel_rfl
@[go_sem] theorem y29 : tsz Tryd.prog 26 = some 1 := by kernel_rfl
@[go_sem] theorem y30 : fieldOff Tryd.prog 30 2 = some 4 := by kernel_rfl
@[go_sem] theorem y31 : zcells Tryd.prog 46 = some [AVal.lit (Value.int IntKind.i64 0), AVal.lit (Value.int IntKind.i64 0), AVal.lit (Value.int IntKind.i64 0), AVal.lit (Value.int IntKind.i64 0), AVal.lit (Value.int IntKind.u64 0), AVal.lit (Value.bool false), AVal.lit (Value.int IntKind.u64 0), AVal.lit (Value.int IntKind.u32 0)] := by kernel_rfl
@[go_sem] theorem y32 : placesOf Tryd.prog 46 = some { toList := [(0, 1), (1, 1), (2, 1), (3, 1), (4, 1), (5, 1), (6, 1), (7, 1)] } := by kernel_rfl
@[go_sem] theorem y33 : isStructT Tryd.prog 46 = true := by kernel_rfl
@[go_sem] theorem y34 : arrE Tryd.prog 46 = none := by kernel_rfl
@[go_sem] theorem y35 : ezero Tryd.prog 27 = some (8, 64, [AVal.lit (Value.int IntKind.i64 0), AVal.lit (Value.int IntKind.i64 0), AVal.lit (Value.int IntKind.i64 0), AVal.lit (Value.int IntKind.i64 0), AVal.lit (Value.int IntKind.u64 0), AVal.lit (Value.bool false), AVal.lit (Value.int IntKind.u64 0), AVal.lit (Value.int IntKind.u32 0)]) := by kernel_rfl
@[go_sem] theorem ap_27 {H0 : Heap} {k id : Nat} {l : List (List AVal)} {y : Option AVal} (hin : accIn H0 id 8 l) (hid : id < k) : aAppend Tryd.prog (AM.look H0) k 27 (some (accV id l)) y = appR 8 64 k id l (y.bind (aSrc (AM.look H0))) := app_acc y35 hin hid
@[go_sem] theorem ln_27 {H0 : Heap} {k id : Nat} {l : List (List AVal)} (hin : accIn H0 id 8 l) : lenO Tryd.prog (AM.look H0) k 27 (some (accV id l)) = some ⟨.lit (.int .i64 (l.length : Int)), k, [], accRds id l⟩ := len_acc (by kernel_rfl) hin
@[go_sem] theorem y36 : fieldOff Tryd.prog 30 3 = some 5 := by kernel_rfl
@[go_sem] theorem y37 : tsz Tryd.prog 27 = some 1 := by kernel_rfl
@[go_sem] theorem y38 : fieldOff Tryd.prog 30 4 = some 6 := by kernel_rfl
@[go_sem] theorem y39 : tagg Tryd.prog 28 = some false := by kernel_rfl
@[go_sem] theorem y40 : tsz Tryd.prog 28 = some 1 := by kernel_rfl
@[go_sem] theorem y41 : esz Tryd.prog 28 = some 1 := by kernel_rfl
@[go_sem] theorem y42 : arr Tryd.prog 28 = none := by kernel_rfl
@[go_sem] theorem y43 : tagg Tryd.prog 49 = some false := by kernel_rfl
@[go_sem] theorem y44 : tsz Tryd.prog 49 = some 1 := by kernel_rfl
@[go_sem] theorem y45 : esz Tryd.prog 49 = some 3 := by kernel_rfl
@[go_sem] theorem y46 : arr Tryd.prog 49 = none := by kernel_rfl
@[go_sem] theorem y47 : fieldOff Tryd.prog 48 2 = some 2 := by kernel_rfl
@[go_sem] theorem y48 : tsz Tryd.prog 22 = some 1 := by kernel_rfl
@[go_sem] theorem y49 : ezero Tryd.prog 50 = some (7, 136, [AVal.lit (Value.int IntKind.i64 0), AVal.lit (Value.int IntKind.u64 0), AVal.lit (Value.slice none 0 0), AVal.lit (Value.slice none 0 0), AVal.lit (Value.slice none 0 0), AVal.lit (Value.slice none 0 0), AVal.lit (Value.slice none 0 0)]) := by kernel_rfl
@[go_sem] theorem ap_50 {H0 : Heap} {k id : Nat} {l : List (List AVal)} {y : Option AVal} (hin : accIn H0 id 7 l) (hid : id < k) : aAppend Tryd.prog (AM.look H0) k 50 (some (accV id l)) y = appR 7 136 k id l (y.bind (aSrc (AM.look H0))) := app_acc y49 hin hid
@[go_sem] theorem ln_50 {H0 : Heap} {k id : Nat} {l : List (List AVal)} (hin : accIn H0 id 7 l) : lenO Tryd.prog (AM.look H0) k 50 (some (accV id l)) = some ⟨.lit (.int .i64 (l.length : Int)), k, [], accRds id l⟩ := len_acc (by kernel_rfl) hin
@[go_sem] theorem y50 : isSliceT Tryd.prog 50 = true := by kernel_rfl
@[go_sem] theorem y51 : isStrT Tryd.prog 50 = false := by kernel_rfl
@[go_sem] theorem y52 : esz Tryd.prog 50 = some 7 := by kernel_rfl
@[go_sem] theorem y53 : arr Tryd.prog 50 = none := by kernel_rfl
@[go_sem] theorem y54 : ezero Tryd.prog 51 = some (1, 24, [AVal.lit (Value.slice none 0 0)]) := by kernel_rfl
@[go_sem] theorem ap_51 {H0 : Heap} {k id : Nat} {l : List (List AVal)} {y : Option AVal} (hin : accIn H0 id 1 l) (hid : id < k) : aAppend Tryd.prog (AM.look H0) k 51 (some (accV id l)) y = appR 1 24 k id l (y.bind (aSrc (AM.look H0))) := app_acc y54 hin hid
@[go_sem] theorem ln_51 {H0 : Heap} {k id : Nat} {l : List (List AVal)} (hin : accIn H0 id 1 l) : lenO Tryd.prog (AM.look H0) k 51 (some (accV id l)) = some ⟨.lit (.int .i64 (l.length : Int)), k, [], accRds id l⟩ := len_acc (by kernel_rfl) hin
@[go_sem] theorem y55 : esz Tryd.prog 51 = some 1 := by kernel_rfl
@[go_sem] theorem y56 : arr Tryd.prog 51 = none := by kernel_rfl
@[go_sem] theorem y57 : tagg Tryd.prog 41 = some false := by kernel_rfl
@[go_sem] theorem y58 : tsz Tryd.prog 41 = some 1 := by kernel_rfl
@[go_sem] theorem y59 : callable Tryd.prog 17 = true := by kernel_rfl
@[go_sem] theorem y60 : tagOf Tryd.prog 52 = some 0 := by kernel_rfl
@[go_sem] theorem y61 : eqOffs Tryd.prog 52 = none := by kernel_rfl
@[go_sem] theorem y62 : refT Tryd.prog 52 = none := by kernel_rfl
@[go_sem] theorem y63 : callable Tryd.prog 18 = true := by kernel_rfl
@[go_sem] theorem y64 : fieldOff Tryd.prog 30 0 = some 0 := by kernel_rfl
@[go_sem] theorem y65 : fieldOff Tryd.prog 25 0 = some 0 := by kernel_rfl
@[go_sem] theorem y66 : tagg Tryd.prog 3 = some false := by kernel_rfl
@[go_sem] theorem y67 : tsz Tryd.prog 3 = some 1 := by kernel_rfl
@[go_sem] theorem y68 : fieldOff Tryd.prog 25 2 = some 2 := by kernel_rfl
@[go_sem] theorem y69 : tagg Tryd.prog 23 = some false := by kernel_rfl
@[go_sem] theorem y70 : tsz Tryd.prog 23 = some 1 := by kernel_rfl
@[go_sem] theorem y71 : isSliceT Tryd.prog 23 = true := by kernel_rfl
@[go_sem] theorem y72 : isStrT Tryd.prog 23 = false := by kernel_rfl
@[go_sem] theorem y73 : tagg Tryd.prog 26 = some false := by kernel_rfl
@[go_sem] theorem y74 : isSliceT Tryd.prog 26 = true := by kernel_rfl
@[go_sem] theorem y75 : isStrT Tryd.prog 26 = false := by kernel_rfl
@[go_sem] theorem y76 : tagg Tryd.prog 27 = some false := by kernel_rfl
@[go_sem] theorem y77 : isSliceT Tryd.prog 27 = true := by kernel_rfl
@[go_sem] theorem y78 : isStrT Tryd.prog 27 = false := by kernel_rfl
@[go_sem] theorem y79 : isSliceT Tryd.prog 28 = true := by kernel_rfl
@[go_sem] theorem y80 : isStrT Tryd.prog 28 = false := by kernel_rfl
@[go_sem] theorem y81 : isSliceT Tryd.prog 49 = true := by kernel_rfl
@[go_sem] theorem y82 : isStrT Tryd.prog 49 = false := by kernel_rfl
@[go_sem] theorem y83 : ezero Tryd.prog 49 = some (3, 24, [AVal.lit (Value.int IntKind.u64 0), AVal.lit (Value.int IntKind.u32 0), AVal.lit (Value.int IntKind.u64 0)]) := by kernel_rfl
@[go_sem] theorem ap_49 {H0 : Heap} {k id : Nat} {l : List (List AVal)} {y : Option AVal} (hin : accIn H0 id 3 l) (hid : id < k) : aAppend Tryd.prog (AM.look H0) k 49 (some (accV id l)) y = appR 3 24 k id l (y.bind (aSrc (AM.look H0))) := app_acc y83 hin hid
@[go_sem] theorem ln_49 {H0 : Heap} {k id : Nat} {l : List (List AVal)} (hin : accIn H0 id 3 l) : lenO Tryd.prog (AM.look H0) k 49 (some (accV id l)) = some ⟨.lit (.int .i64 (l.length : Int)), k, [], accRds id l⟩ := len_acc (by kernel_rfl) hin
@[go_sem] theorem y84 : ezero Tryd.prog 28 = some (1, 24, [AVal.lit (Value.slice none 0 0)]) := by kernel_rfl
@[go_sem] theorem ap_28 {H0 : Heap} {k id : Nat} {l : List (List AVal)} {y : Option AVal} (hin : accIn H0 id 1 l) (hid : id < k) : aAppend Tryd.prog (AM.look H0) k 28 (some (accV id l)) y = appR 1 24 k id l (y.bind (aSrc (AM.look H0))) := app_acc y84 hin hid
@[go_sem] theorem ln_28 {H0 : Heap} {k id : Nat} {l : List (List AVal)} (hin : accIn H0 id 1 l) : lenO Tryd.prog (AM.look H0) k 28 (some (accV id l)) = some ⟨.lit (.int .i64 (l.length : Int)), k, [], accRds id l⟩ := len_acc (by kernel_rfl) hin
@[go_sem] theorem y85 : tagg Tryd.prog 25 = some true := by kernel_rfl
@[go_sem] theorem y86 : tsz Tryd.prog 25 = some 3 := by kernel_rfl
@[go_sem] theorem y87 : callable Tryd.prog 19 = true := by kernel_rfl
@[go_sem] theorem y88 : callable Tryd.prog 20 = true := by kernel_rfl
@[go_sem] theorem y89 : isSliceT Tryd.prog 38 = true := by kernel_rfl
@[go_sem] theorem y90 : isStrT Tryd.prog 38 = false := by kernel_rfl
@[go_sem] theorem y91 : esz Tryd.prog 36 = some 3 := by kernel_rfl
@[go_sem] theorem y92 : arr Tryd.prog 36 = none := by kernel_rfl
@[go_sem] theorem y93 : tagg Tryd.prog 60 = some true := by kernel_rfl
@[go_sem] theorem y94 : tsz Tryd.prog 60 = some 3 := by kernel_rfl
@[go_sem] theorem y95 : zcells Tryd.prog 60 = some [AVal.lit (Value.int IntKind.u8 0), AVal.lit (Value.int IntKind.i64 0), AVal.lit (Value.int IntKind.i64 0)] := by kernel_rfl
@[go_sem] theorem y96 : arr Tryd.prog 60 = none := by kernel_rfl
@[go_sem] theorem y97 : esz Tryd.prog 38 = some 3 := by kernel_rfl
@[go_sem] theorem y98 : arr Tryd.prog 38 = none := by kernel_rfl
@[go_sem] theorem y99 : tagg Tryd.prog 61 = some true := by kernel_rfl
@[go_sem] theorem y100 : tsz Tryd.prog 61 = some 3 := by kernel_rfl
@[go_sem] theorem y101 : tagOf Tryd.prog 61 = none := by kernel_rfl
@[go_sem] theorem y102 : eqOffs Tryd.prog 61 = some [(0, 0), (1, 0), (2, 0)] := by kernel_rfl
@[go_sem] theorem y103 : refT Tryd.prog 61 = none := by kernel_rfl
@[go_sem] theorem y104 : zcells Tryd.prog 64 = some [AVal.lit (Value.int IntKind.i64 0), AVal.lit (Value.int IntKind.u64 0), AVal.lit (Value.slice none 0 0), AVal.lit (Value.slice none 0 0), AVal.lit (Value.slice none 0 0), AVal.lit (Value.slice none 0 0), AVal.lit (Value.slice none 0 0), AVal.lit (Value.slice none 0 0)] := by kernel_rfl
@[go_sem] theorem y105 : placesOf Tryd.prog 64 = some { toList := [(0, 7), (7, 1)] } := by kernel_rfl
@[go_sem] theorem y106 : isStructT Tryd.prog 64 = true := by kernel_rfl
@[go_sem] theorem y107 : arrE Tryd.prog 64 = none := by kernel_rfl
@[go_sem] theorem y108 : arr Tryd.prog 64 = none := by kernel_rfl
@[go_sem] theorem y109 : callable Tryd.prog 21 = true := by kernel_rfl
@[go_sem] theorem y110 : placesOf Tryd.prog 60 = some { toList := [(0, 1), (1, 1), (2, 1)] } := by kernel_rfl
@[go_sem] theorem y111 : isStructT Tryd.prog 60 = true := by kernel_rfl
@[go_sem] theorem y112 : arrE Tryd.prog 60 = none := by kernel_rfl
@[go_sem] theorem y113 : ezero Tryd.prog 36 = some (3, 24, [AVal.lit (Value.int IntKind.u8 0), AVal.lit (Value.int IntKind.i64 0), AVal.lit (Value.int IntKind.i64 0)]) := by kernel_rfl
@[go_sem] theorem ap_36 {H0 : Heap} {k id : Nat} {l : List (List AVal)} {y : Option AVal} (hin : accIn H0 id 3 l) (hid : id < k) : aAppend Tryd.prog (AM.look H0) k 36 (some (accV id l)) y = appR 3 24 k id l (y.bind (aSrc (AM.look H0))) := app_acc y113 hin hid
@[go_sem] theorem ln_36 {H0 : Heap} {k id : Nat} {l : List (List AVal)} (hin : accIn H0 id 3 l) : lenO Tryd.prog (AM.look H0) k 36 (some (accV id l)) = some ⟨.lit (.int .i64 (l.length : Int)), k, [], accRds id l⟩ := len_acc (by kernel_rfl) hin
@[go_sem] theorem y114 : ezero Tryd.prog 67 = some (1, 8, [AVal.lit Value.nilFunc]) := by kernel_rfl
@[go_sem] theorem ap_67 {H0 : Heap} {k id : Nat} {l : List (List AVal)} {y : Option AVal} (hin : accIn H0 id 1 l) (hid : id < k) : aAppend Tryd.prog (AM.look H0) k 67 (some (accV id l)) y = appR 1 8 k id l (y.bind (aSrc (AM.look H0))) := app_acc y114 hin hid
@[go_sem] theorem ln_67 {H0 : Heap} {k id : Nat} {l : List (List AVal)} (hin : accIn H0 id 1 l) : lenO Tryd.prog (AM.look H0) k 67 (some (accV id l)) = some ⟨.lit (.int .i64 (l.length : Int)), k, [], accRds id l⟩ := len_acc (by kernel_rfl) hin
@[go_sem] theorem y115 : zcells Tryd.prog 68 = some [AVal.lit (Value.slice none 0 0), AVal.lit (Value.slice none 0 0), AVal.lit (Value.slice none 0 0)] := by kernel_rfl
@[go_sem] theorem y116 : placesOf Tryd.prog 68 = some { toList := [(0, 1), (1, 1), (2, 1)] } := by kernel_rfl
@[go_sem] theorem y117 : isStructT Tryd.prog 68 = false := by kernel_rfl
@[go_sem] theorem y118 : arrE Tryd.prog 68 = some (3, 1, false) := by kernel_rfl
@[go_sem] theorem y119 : arr Tryd.prog 68 = some (3, 1) := by kernel_rfl
@[go_sem] theorem y120 : tsz Tryd.prog 68 = some 3 := by kernel_rfl
@[go_sem] theorem y121 : tagg Tryd.prog 68 = some true := by kernel_rfl
@[go_sem] theorem y122 : isStrT Tryd.prog 68 = false := by kernel_rfl
@[go_sem] theorem y123 : isSliceT Tryd.prog 67 = true := by kernel_rfl
@[go_sem] theorem y124 : isStrT Tryd.prog 67 = false := by kernel_rfl
@[go_sem] theorem y125 : esz Tryd.prog 67 = some 1 := by kernel_rfl
@[go_sem] theorem y126 : arr Tryd.prog 67 = none := by kernel_rfl
@[go_sem] theorem y127 : tagg Tryd.prog 66 = some false := by kernel_rfl
@[go_sem] theorem y128 : tsz Tryd.prog 66 = some 1 := by kernel_rfl
@[go_sem] theorem y129 : fieldOff Tryd.prog 64 1 = some 7 := by kernel_rfl
@[go_sem] theorem y130 : tagg Tryd.prog 36 = some false := by kernel_rfl
@[go_sem] theorem y131 : tsz Tryd.prog 36 = some 1 := by kernel_rfl
@[go_sem] theorem y132 : callable Tryd.prog 27 = true := by kernel_rfl
@[go_sem] theorem y133 : callable Tryd.prog 28 = true := by kernel_rfl
@[go_sem] theorem y134 : zcells Tryd.prog 61 = some [AVal.lit (Value.int IntKind.u8 0), AVal.lit (Value.int IntKind.i64 0), AVal.lit (Value.int IntKind.i64 0)] := by kernel_rfl
@[go_sem] theorem y135 : placesOf Tryd.prog 61 = some { toList := [(0, 1), (1, 1), (2, 1)] } := by kernel_rfl
@[go_sem] theorem y136 : isStructT Tryd.prog 61 = true := by kernel_rfl
@[go_sem] theorem y137 : arrE Tryd.prog 61 = none := by kernel_rfl
@[go_sem] theorem y138 : ezero Tryd.prog 38 = some (3, 24, [AVal.lit (Value.int IntKind.u8 0), AVal.lit (Value.int IntKind.i64 0), AVal.lit (Value.int IntKind.i64 0)]) := by kernel_rfl
@[go_sem] theorem ap_38 {H0 : Heap} {k id : Nat} {l : List (List AVal)} {y : Option AVal} (hin : accIn H0 id 3 l) (hid : id < k) : aAppend Tryd.prog (AM.look H0) k 38 (some (accV id l)) y = appR 3 24 k id l (y.bind (aSrc (AM.look H0))) := app_acc y138 hin hid
@[go_sem] theorem ln_38 {H0 : Heap} {k id : Nat} {l : List (List AVal)} (hin : accIn H0 id 3 l) : lenO Tryd.prog (AM.look H0) k 38 (some (accV id l)) = some ⟨.lit (.int .i64 (l.length : Int)), k, [], accRds id l⟩ := len_acc (by kernel_rfl) hin
@[go_sem] theorem y139 : callable Tryd.prog 29 = true := by kernel_rfl
@[go_sem] theorem y140 : callable Tryd.prog 30 = true := by kernel_rfl
@[go_sem] theorem y141 : callable Tryd.prog 31 = true := by kernel_rfl
@[go_sem] theorem y142 : callable Tryd.prog 32 = true := by kernel_rfl
@[go_sem] theorem y143 : callable Tryd.prog 33 = true := by kernel_rfl
@[go_sem] theorem y144 : callable Tryd.prog 34 = true := by kernel_rfl
@[go_sem] theorem y145 : callable Tryd.prog 35 = true := by kernel_rfl
@[go_sem] theorem y146 : isSliceT Tryd.prog 41 = true := by kernel_rfl
@[go_sem] theorem y147 : isStrT Tryd.prog 41 = false := by kernel_rfl
@[go_sem] theorem y148 : esz Tryd.prog 41 = some 1 := by kernel_rfl
@[go_sem] theorem y149 : arr Tryd.prog 41 = none := by kernel_rfl
@[go_sem] theorem y150 : tagg Tryd.prog 9 = some false := by kernel_rfl
@[go_sem] theorem y151 : tsz Tryd.prog 9 = some 1 := by kernel_rfl
@[go_sem] theorem y152 : tagOf Tryd.prog 9 = some 2 := by kernel_rfl
@[go_sem] theorem y153 : eqOffs Tryd.prog 9 = none := by kernel_rfl
@[go_sem] theorem y154 : refT Tryd.prog 9 = none := by kernel_rfl
@[go_sem] theorem y155 : callable Tryd.prog 36 = true := by kernel_rfl
@[go_sem] theorem y156 : zcells Tryd.prog 78 = some [AVal.lit (Value.int IntKind.i64 0), AVal.lit (Value.int IntKind.i64 0)] := by kernel_rfl
@[go_sem] theorem y157 : placesOf Tryd.prog 78 = some { toList := [(0, 1), (1, 1)] } := by kernel_rfl
@[go_sem] theorem y158 : isStructT Tryd.prog 78 = true := by kernel_rfl
@[go_sem] theorem y159 : arrE Tryd.prog 78 = none := by kernel_rfl
@[go_sem] theorem y160 : ezero Tryd.prog 23 = some (2, 16, [AVal.lit (Value.int IntKind.i64 0), AVal.lit (Value.int IntKind.i64 0)]) := by kernel_rfl
@[go_sem] theorem ap_23 {H0 : Heap} {k id : Nat} {l : List (List AVal)} {y : Option AVal} (hin : accIn H0 id 2 l) (hid : id < k) : aAppend Tryd.prog (AM.look H0) k 23 (some (accV id l)) y = appR 2 16 k id l (y.bind (aSrc (AM.look H0))) := app_acc y160 hin hid
@[go_sem] theorem ln_23 {H0 : Heap} {k id : Nat} {l : List (List AVal)} (hin : accIn H0 id 2 l) : lenO Tryd.prog (AM.look H0) k 23 (some (accV id l)) = some ⟨.lit (.int .i64 (l.length : Int)), k, [], accRds id l⟩ := len_acc (by kernel_rfl) hin
@[go_sem] theorem y161 : zcells Tryd.prog 25 = some [AVal.lit (Value.int IntKind.i64 0), AVal.lit (Value.int IntKind.u64 0), AVal.lit (Value.slice none 0 0)] := by kernel_rfl
@[go_sem] theorem y162 : placesOf Tryd.prog 25 = some { toList := [(0, 1), (1, 1), (2, 1)] } := by kernel_rfl
@[go_sem] theorem y163 : isStructT Tryd.prog 25 = true := by kernel_rfl
@[go_sem] theorem y164 : arrE Tryd.prog 25 = none := by kernel_rfl
@[go_sem] theorem y165 : callable Tryd.prog 37 = true := by kernel_rfl
@[go_sem] theorem y166 : fieldOff Tryd.prog 25 1 = some 1 := by kernel_rfl
@[go_sem] theorem y167 : tagg Tryd.prog 22 = some false := by kernel_rfl
@[go_sem] theorem y168 : tagOf Tryd.prog 22 = some 0 := by kernel_rfl
@[go_sem] theorem y169 : eqOffs Tryd.prog 22 = none := by kernel_rfl
@[go_sem] theorem y170 : refT Tryd.prog 22 = none := by kernel_rfl
@[go_sem] theorem y171 : callable Tryd.prog 39 = true := by kernel_rfl
@[go_sem] theorem y172 : callable Tryd.prog 38 = true := by kernel_rfl
@[go_sem] theorem y173 : esz Tryd.prog 26 = some 1 := by kernel_rfl
@[go_sem] theorem y174 : arr Tryd.prog 26 = none := by kernel_rfl
@[go_sem] theorem y175 : callable Tryd.prog 40 = true := by kernel_rfl
@[go_sem] theorem y176 : tagg Tryd.prog 48 = some true := by kernel_rfl
@[go_sem] theorem y177 : tsz Tryd.prog 48 = some 3 := by kernel_rfl
@[go_sem] theorem y178 : zcells Tryd.prog 48 = some [AVal.lit (Value.int IntKind.u64 0), AVal.lit (Value.int IntKind.u32 0), AVal.lit (Value.int IntKind.u64 0)] := by kernel_rfl
@[go_sem] theorem y179 : arr Tryd.prog 48 = none := by kernel_rfl
@[go_sem] theorem y180 : esz Tryd.prog 23 = some 2 := by kernel_rfl
@[go_sem] theorem y181 : arr Tryd.prog 23 = none := by kernel_rfl
@[go_sem] theorem y182 : fieldOff Tryd.prog 78 0 = some 0 := by kernel_rfl
@[go_sem] theorem y183 : arr Tryd.prog 25 = none := by kernel_rfl
@[go_sem] theorem y184 : callable Tryd.prog 41 = true := by kernel_rfl
@[go_sem] theorem y185 : fieldOff Tryd.prog 64 0 = some 0 := by kernel_rfl
@[go_sem] theorem y186 : zcells Tryd.prog 3 = some [AVal.lit (Value.int IntKind.i64 0)] := by kernel_rfl
@[go_sem] theorem y187 : arr Tryd.prog 3 = none := by kernel_rfl
@[go_sem] theorem y188 : callable Tryd.prog 42 = true := by kernel_rfl
@[go_sem] theorem y189 : callable Tryd.prog 43 = true := by kernel_rfl
@[go_sem] theorem y190 : esz Tryd.prog 27 = some 8 := by kernel_rfl
@[go_sem] theorem y191 : arr Tryd.prog 27 = none := by kernel_rfl
@[go_sem] theorem y192 : tagg Tryd.prog 46 = some true := by kernel_rfl
@[go_sem] theorem y193 : tsz Tryd.prog 46 = some 8 := by kernel_rfl
@[go_sem] theorem y194 : arr Tryd.prog 46 = none := by kernel_rfl
@[go_sem] theorem y195 : fieldOff Tryd.prog 46 3 = some 3 := by kernel_rfl
@[go_sem] theorem y196 : fieldOff Tryd.prog 46 0 = some 0 := by kernel_rfl
@[go_sem] theorem y197 : fieldOff Tryd.prog 46 1 = some 1 := by kernel_rfl
@[go_sem] theorem y198 : fieldOff Tryd.prog 46 4 = some 4 := by kernel_rfl
@[go_sem] theorem y199 : fieldOff Tryd.prog 46 6 = some 6 := by kernel_rfl
@[go_sem] theorem y200 : fieldOff Tryd.prog 46 7 = some 7 := by kernel_rfl
@[go_sem] theorem y201 : tagg Tryd.prog 44 = some false := by kernel_rfl
@[go_sem] theorem y202 : tsz Tryd.prog 44 = some 1 := by kernel_rfl
@[go_sem] theorem y203 : fieldOff Tryd.prog 46 2 = some 2 := by kernel_rfl
@[go_sem] theorem y204 : callable Tryd.prog 44 = true := by kernel_rfl
@[go_sem] theorem y205 : fieldOff Tryd.prog 48 0 = some 0 := by kernel_rfl
@[go_sem] theorem y206 : fieldOff Tryd.prog 48 1 = some 1 := by kernel_rfl
@[go_sem] theorem y207 : tagOf Tryd.prog 44 = some 0 := by kernel_rfl
@[go_sem] theorem y208 : eqOffs Tryd.prog 44 = none := by kernel_rfl
@[go_sem] theorem y209 : refT Tryd.prog 44 = none := by kernel_rfl
@[go_sem] theorem y210 : fieldOff Tryd.prog 78 1 = some 1 := by kernel_rfl
@[go_sem] theorem y211 : ezero Tryd.prog 85 = some (1, 8, [AVal.lit (Value.pointer none)]) := by kernel_rfl
@[go_sem] theorem ap_85 {H0 : Heap} {k id : Nat} {l : List (List AVal)} {y : Option AVal} (hin : accIn H0 id 1 l) (hid : id < k) : aAppend Tryd.prog (AM.look H0) k 85 (some (accV id l)) y = appR 1 8 k id l (y.bind (aSrc (AM.look H0))) := app_acc y211 hin hid
@[go_sem] theorem ln_85 {H0 : Heap} {k id : Nat} {l : List (List AVal)} (hin : accIn H0 id 1 l) : lenO Tryd.prog (AM.look H0) k 85 (some (accV id l)) = some ⟨.lit (.int .i64 (l.length : Int)), k, [], accRds id l⟩ := len_acc (by kernel_rfl) hin
@[go_sem] theorem y212 : zcells Tryd.prog 85 = some [AVal.lit (Value.slice none 0 0)] := by kernel_rfl
@[go_sem] theorem y213 : arr Tryd.prog 85 = none := by kernel_rfl
@[go_sem] theorem y214 : tsz Tryd.prog 85 = some 1 := by kernel_rfl
@[go_sem] theorem y215 : callable Tryd.prog 45 = true := by kernel_rfl
@[go_sem] theorem y216 : fieldOff Tryd.prog 46 5 = some 5 := by kernel_rfl
@[go_sem] theorem y217 : tagg Tryd.prog 4 = some false := by kernel_rfl
@[go_sem] theorem y218 : tsz Tryd.prog 4 = some 1 := by kernel_rfl
@[go_sem] theorem y219 : tagg Tryd.prog 85 = some false := by kernel_rfl
@[go_sem] theorem y220 : isSliceT Tryd.prog 85 = true := by kernel_rfl
@[go_sem] theorem y221 : isStrT Tryd.prog 85 = false := by kernel_rfl
@[go_sem] theorem y222 : esz Tryd.prog 85 = some 1 := by kernel_rfl
@[go_sem] theorem y223 : tagg Tryd.prog 86 = some false := by kernel_rfl
@[go_sem] theorem y224 : tsz Tryd.prog 86 = some 1 := by kernel_rfl
@[go_sem] theorem y225 : tagOf Tryd.prog 86 = none := by kernel_rfl
@[go_sem] theorem y226 : eqOffs Tryd.prog 86 = none := by kernel_rfl
@[go_sem] theorem y227 : refT Tryd.prog 86 = some 0 := by kernel_rfl
@[go_sem] theorem y228 : callable Tryd.prog 46 = true := by kernel_rfl
@[go_sem] theorem y229 : callable Tryd.prog 48 = true := by kernel_rfl
@[go_sem] theorem y230 : callable Tryd.prog 49 = true := by kernel_rfl
@[go_sem] theorem y231 : callable Tryd.prog 50 = true := by kernel_rfl
@[go_sem] theorem y232 : callable Tryd.prog 51 = true := by kernel_rfl
@[go_sem] theorem y233 : callable Tryd.prog 52 = true := by kernel_rfl
@[go_sem] theorem y234 : callable Tryd.prog 53 = true := by kernel_rfl
@[go_sem] theorem y235 : isSliceT Tryd.prog 94 = true := by kernel_rfl
@[go_sem] theorem y236 : isStrT Tryd.prog 94 = false := by kernel_rfl
@[go_sem] theorem y237 : esz Tryd.prog 94 = some 3 := by kernel_rfl
@[go_sem] theorem y238 : arr Tryd.prog 94 = none := by kernel_rfl
@[go_sem] theorem y239 : fieldOff Tryd.prog 97 0 = some 0 := by kernel_rfl
@[go_sem] theorem y240 : callable Tryd.prog 54 = true := by kernel_rfl
@[go_sem] theorem y241 : callable Tryd.prog 55 = true := by kernel_rfl
@[go_sem] theorem y242 : callable Tryd.prog 56 = true := by kernel_rfl
@[go_sem] theorem y243 : fieldOff Tryd.prog 60 0 = some 0 := by kernel_rfl
@[go_sem] theorem y244 : tagg Tryd.prog 5 = some false := by kernel_rfl
@[go_sem] theorem y245 : tsz Tryd.prog 5 = some 1 := by kernel_rfl
@[go_sem] theorem y246 : callable Tryd.prog 57 = true := by kernel_rfl
@[go_sem] theorem y247 : fieldOff Tryd.prog 60 1 = some 1 := by kernel_rfl
@[go_sem] theorem y248 : fieldOff Tryd.prog 60 2 = some 2 := by kernel_rfl
@[go_sem] theorem y249 : callable Tryd.prog 58 = true := by kernel_rfl
@[go_sem] theorem y250 : callable Tryd.prog 59 = true := by kernel_rfl
@[go_sem] theorem y251 : tagg Tryd.prog 78 = some true := by kernel_rfl
@[go_sem] theorem y252 : tsz Tryd.prog 78 = some 2 := by kernel_rfl
@[go_sem] theorem y253 : arr Tryd.prog 78 = none := by kernel_rfl
@[go_sem] theorem y254 : callable Tryd.prog 60 = true := by kernel_rfl
@[go_sem] theorem y255 : callable Tryd.prog 61 = true := by kernel_rfl
@[go_sem] theorem y256 : ikind Tryd.prog 3 = some IntKind.i64 := by kernel_rfl
@[go_sem] theorem y257 : ikind Tryd.prog 44 = some IntKind.u32 := by kernel_rfl
@[go_sem] theorem y258 : isStrT Tryd.prog 44 = false := by kernel_rfl
@[go_sem] theorem y259 : zcells Tryd.prog 106 = some [AVal.lit (Value.int IntKind.u64 0), AVal.lit (Value.int IntKind.u32 0), AVal.lit (Value.int IntKind.u32 0)] := by kernel_rfl
@[go_sem] theorem y260 : placesOf Tryd.prog 106 = some { toList := [(0, 1), (1, 1), (2, 1)] } := by kernel_rfl
@[go_sem] theorem y261 : isStructT Tryd.prog 106 = true := by kernel_rfl
@[go_sem] theorem y262 : arrE Tryd.prog 106 = none := by kernel_rfl
@[go_sem] theorem y263 : callable Tryd.prog 62 = true := by kernel_rfl
@[go_sem] theorem y264 : arr Tryd.prog 22 = none := by kernel_rfl
@[go_sem] theorem y265 : ikind Tryd.prog 109 = some IntKind.u64 := by kernel_rfl
@[go_sem] theorem y266 : isStrT Tryd.prog 109 = false := by kernel_rfl
@[go_sem] theorem y267 : callable Tryd.prog 64 = true := by kernel_rfl
@[go_sem] theorem y268 : callable Tryd.prog 63 = true := by kernel_rfl
@[go_sem] theorem y269 : tagOf Tryd.prog 5 = some 0 := by kernel_rfl
@[go_sem] theorem y270 : eqOffs Tryd.prog 5 = none := by kernel_rfl
@[go_sem] theorem y271 : refT Tryd.prog 5 = none := by kernel_rfl
@[go_sem] theorem y272 : ikind Tryd.prog 5 = some IntKind.u8 := by kernel_rfl
@[go_sem] theorem y273 : isStrT Tryd.prog 3 = false := by kernel_rfl
@[go_sem] theorem y274 : callable Tryd.prog 65 = true := by kernel_rfl
@[go_sem] theorem y275 : zcells Tryd.prog 112 = some [AVal.lit (Value.int IntKind.u64 0), AVal.lit (Value.int IntKind.u32 0), AVal.lit (Value.int IntKind.u32 0)] := by kernel_rfl
@[go_sem] theorem y276 : placesOf Tryd.prog 112 = some { toList := [(0, 1), (1, 1), (2, 1)] } := by kernel_rfl
@[go_sem] theorem y277 : isStructT Tryd.prog 112 = true := by kernel_rfl
@[go_sem] theorem y278 : arrE Tryd.prog 112 = none := by kernel_rfl
@[go_sem] theorem y279 : callable Tryd.prog 66 = true := by kernel_rfl
@[go_sem] theorem y280 : zcells Tryd.prog 97 = some [AVal.lit (Value.int IntKind.u64 0), AVal.lit (Value.int IntKind.i64 0), AVal.lit (Value.int IntKind.i64 0)] := by kernel_rfl
@[go_sem] theorem y281 : placesOf Tryd.prog 97 = some { toList := [(0, 1), (1, 1), (2, 1)] } := by kernel_rfl
@[go_sem] theorem y282 : isStructT Tryd.prog 97 = true := by kernel_rfl
@[go_sem] theorem y283 : arrE Tryd.prog 97 = none := by kernel_rfl
@[go_sem] theorem y284 : ezero Tryd.prog 94 = some (3, 24, [AVal.lit (Value.int IntKind.u64 0), AVal.lit (Value.int IntKind.i64 0), AVal.lit (Value.int IntKind.i64 0)]) := by kernel_rfl
@[go_sem] theorem ap_94 {H0 : Heap} {k id : Nat} {l : List (List AVal)} {y : Option AVal} (hin : accIn H0 id 3 l) (hid : id < k) : aAppend Tryd.prog (AM.look H0) k 94 (some (accV id l)) y = appR 3 24 k id l (y.bind (aSrc (AM.look H0))) := app_acc y284 hin hid
@[go_sem] theorem ln_94 {H0 : Heap} {k id : Nat} {l : List (List AVal)} (hin : accIn H0 id 3 l) : lenO Tryd.prog (AM.look H0) k 94 (some (accV id l)) = some ⟨.lit (.int .i64 (l.length : Int)), k, [], accRds id l⟩ := len_acc (by kernel_rfl) hin
@[go_sem] theorem y285 : callable Tryd.prog 67 = true := by kernel_rfl
@[go_sem] theorem y286 : tagOf Tryd.prog 46 = none := by kernel_rfl
@[go_sem] theorem y287 : eqOffs Tryd.prog 46 = some [(0, 0), (1, 0), (2, 0), (3, 0), (4, 0), (5, 1), (6, 0), (7, 0)] := by kernel_rfl
@[go_sem] theorem y288 : refT Tryd.prog 46 = none := by kernel_rfl
@[go_sem] theorem y289 : tagOf Tryd.prog 48 = none := by kernel_rfl
@[go_sem] theorem y290 : eqOffs Tryd.prog 48 = some [(0, 0), (1, 0), (2, 0)] := by kernel_rfl
@[go_sem] theorem y291 : refT Tryd.prog 48 = none := by kernel_rfl
@[go_sem] theorem y292 : zcells Tryd.prog 113 = some [AVal.lit (Value.string { data := { toList := [] } }), AVal.lit (Value.string { data := { toList := [] } }), AVal.lit (Value.string { data := { toList := [] } }), AVal.lit (Value.string { data := { toList := [] } }), AVal.lit (Value.string { data := { toList := [] } }), AVal.lit (Value.string { data := { toList := [] } }), AVal.lit (Value.string { data := { toList := [] } }), AVal.lit (Value.string { data := { toList := [] } }), AVal.lit (Value.string { data := { toList := [] } }), AVal.lit (Value.string { data := { toList := [] } }), AVal.lit (Value.string { data := { toList := [] } }), AVal.lit (Value.string { data := { toList := [] } }), AVal.lit (Value.string { data := { toList := [] } }), AVal.lit (Value.string { data := { toList := [] } }), AVal.lit (Value.string { data := { toList := [] } }), AVal.lit (Value.string { data := { toList := [] } }), AVal.lit (Value.string { data := { toList := [] } }), AVal.lit (Value.string { data := { toList := [] } })] := by kernel_rfl
@[go_sem] theorem y293 : placesOf Tryd.prog 113 = some { toList := [(0, 1), (1, 1), (2, 1), (3, 1), (4, 1), (5, 1), (6, 1), (7, 1), (8, 1), (9, 1), (10, 1), (11, 1), (12, 1), (13, 1), (14, 1), (15, 1), (16, 1), (17, 1)] } := by kernel_rfl
@[go_sem] theorem y294 : isStructT Tryd.prog 113 = false := by kernel_rfl
@[go_sem] theorem y295 : arrE Tryd.prog 113 = some (18, 1, false) := by kernel_rfl
@[go_sem] theorem y296 : arr Tryd.prog 113 = some (18, 1) := by kernel_rfl
@[go_sem] theorem y297 : tsz Tryd.prog 113 = some 18 := by kernel_rfl
@[go_sem] theorem y298 : esz Tryd.prog 113 = none := by kernel_rfl
@[go_sem] theorem y299 : callable Tryd.prog 68 = true := by kernel_rfl
@[go_sem] theorem y300 : tagOf Tryd.prog 78 = none := by kernel_rfl
@[go_sem] theorem y301 : eqOffs Tryd.prog 78 = some [(0, 0), (1, 0)] := by kernel_rfl
@[go_sem] theorem y302 : refT Tryd.prog 78 = none := by kernel_rfl
@[go_sem] theorem y303 : callable Tryd.prog 69 = true := by kernel_rfl
@[go_sem] theorem y304 : callable Tryd.prog 70 = true := by kernel_rfl
@[go_sem] theorem y305 : arr Tryd.prog 106 = none := by kernel_rfl
@[go_sem] theorem y306 : fieldOff Tryd.prog 106 2 = some 2 := by kernel_rfl
@[go_sem] theorem y307 : callable Tryd.prog 71 = true := by kernel_rfl
@[go_sem] theorem y308 : fieldOff Tryd.prog 106 1 = some 1 := by kernel_rfl
@[go_sem] theorem y309 : fieldOff Tryd.prog 106 0 = some 0 := by kernel_rfl
@[go_sem] theorem y310 : callable Tryd.prog 72 = true := by kernel_rfl
@[go_sem] theorem y311 : callable Tryd.prog 73 = true := by kernel_rfl
@[go_sem] theorem y312 : callable Tryd.prog 74 = true := by kernel_rfl
@[go_sem] theorem y313 : callable Tryd.prog 75 = true := by kernel_rfl
@[go_sem] theorem y314 : tagOf Tryd.prog 115 = some 0 := by kernel_rfl
@[go_sem] theorem y315 : eqOffs Tryd.prog 115 = none := by kernel_rfl
@[go_sem] theorem y316 : refT Tryd.prog 115 = none := by kernel_rfl
@[go_sem] theorem y317 : callable Tryd.prog 76 = true := by kernel_rfl
@[go_sem] theorem y318 : callable Tryd.prog 77 = true := by kernel_rfl
@[go_sem] theorem y319 : callable Tryd.prog 78 = true := by kernel_rfl
@[go_sem] theorem y320 : callable Tryd.prog 79 = true := by kernel_rfl
@[go_sem] theorem y321 : callable Tryd.prog 80 = true := by kernel_rfl
@[go_sem] theorem y322 : callable Tryd.prog 81 = true := by kernel_rfl
@[go_sem] theorem y323 : arr Tryd.prog 112 = none := by kernel_rfl
@[go_sem] theorem y324 : fieldOff Tryd.prog 112 2 = some 2 := by kernel_rfl
@[go_sem] theorem y325 : fieldOff Tryd.prog 112 1 = some 1 := by kernel_rfl
@[go_sem] theorem y326 : fieldOff Tryd.prog 112 0 = some 0 := by kernel_rfl
@[go_sem] theorem y327 : callable Tryd.prog 82 = true := by kernel_rfl
@[go_sem] theorem y328 : callable Tryd.prog 83 = true := by kernel_rfl
@[go_sem] theorem y329 : callable Tryd.prog 84 = true := by kernel_rfl
@[go_sem] theorem y330 : ikind Tryd.prog 128 = some IntKind.u64 := by kernel_rfl
@[go_sem] theorem y331 : isStrT Tryd.prog 128 = false := by kernel_rfl
@[go_sem] theorem y332 : zcells Tryd.prog 128 = some [AVal.lit (Value.int IntKind.u64 0)] := by kernel_rfl
@[go_sem] theorem y333 : arr Tryd.prog 128 = none := by kernel_rfl
@[go_sem] theorem y334 : tsz Tryd.prog 128 = some 1 := by kernel_rfl
@[go_sem] theorem y335 : callable Tryd.prog 85 = true := by kernel_rfl
@[go_sem] theorem y336 : callable Tryd.prog 86 = true := by kernel_rfl
@[go_sem] theorem y337 : callable Tryd.prog 87 = true := by kernel_rfl
@[go_sem] theorem y338 : callable Tryd.prog 88 = true := by kernel_rfl
@[go_sem] theorem y339 : isStrT Tryd.prog 5 = false := by kernel_rfl
@[go_sem] theorem y340 : arrE Tryd.prog 9 = none := by kernel_rfl
@[go_sem] theorem y341 : isStrT Tryd.prog 9 = true := by kernel_rfl
@[go_sem] theorem y342 : ikind Tryd.prog 22 = some IntKind.u64 := by kernel_rfl
@[go_sem] theorem y343 : callable Tryd.prog 89 = true := by kernel_rfl
@[go_sem] theorem y344 : zcells Tryd.prog 134 = some [AVal.lit (Value.int IntKind.u8 0), AVal.lit (Value.int IntKind.u8 0), AVal.lit (Value.int IntKind.u8 0), AVal.lit (Value.int IntKind.u8 0), AVal.lit (Value.int IntKind.u8 0), AVal.lit (Value.int IntKind.u8 0), AVal.lit (Value.int IntKind.u8 0), AVal.lit (Value.int IntKind.u8 0), AVal.lit (Value.int IntKind.u8 0), AVal.lit (Value.int IntKind.u8 0), AVal.lit (Value.int IntKind.u8 0), AVal.lit (Value.int IntKind.u8 0), AVal.lit (Value.int IntKind.u8 0), AVal.lit (Value.int IntKind.u8 0), AVal.lit (Value.int IntKind.u8 0), AVal.lit (Value.int IntKind.u8 0), AVal.lit (Value.int IntKind.u8 0), AVal.lit (Value.int IntKind.u8 0), AVal.lit (Value.int IntKind.u8 0), AVal.lit (Value.int IntKind.u8 0), AVal.lit (Value.int IntKind.u8 0), AVal.lit (Value.int IntKind.u8 0), AVal.lit (Value.int IntKind.u8 0), AVal.lit (Value.int IntKind.u8 0)] := by kernel_rfl
@[go_sem] theorem y345 : arr Tryd.prog 134 = some (24, 1) := by kernel_rfl
@[go_sem] theorem y346 : ikind Tryd.prog 2 = some IntKind.i64 := by kernel_rfl
@[go_sem] theorem y347 : isStrT Tryd.prog 22 = false := by kernel_rfl
@[go_sem] theorem y348 : callable Tryd.prog 90 = true := by kernel_rfl
@[go_sem] theorem y349 : esz Tryd.prog 134 = none := by kernel_rfl
@[go_sem] theorem y350 : isStrT Tryd.prog 134 = false := by kernel_rfl
@[go_sem] theorem y351 : callable Tryd.prog 91 = true := by kernel_rfl
@[go_sem] theorem y352 : ikind Tryd.prog 136 = none := by kernel_rfl
@[go_sem] theorem y353 : ikind Tryd.prog 9 = none := by kernel_rfl
@[go_sem] theorem y354 : callable Tryd.prog 92 = true := by kernel_rfl
@[go_sem] theorem y355 : callable Tryd.prog 93 = true := by kernel_rfl
@[go_sem] theorem y356 : tagg Tryd.prog 128 = some false := by kernel_rfl
@[go_sem] theorem y357 : callable Tryd.prog 94 = true := by kernel_rfl
@[go_sem] theorem y358 : esz Tryd.prog 9 = none := by kernel_rfl
@[go_sem] theorem y359 : arr Tryd.prog 9 = none := by kernel_rfl
@[go_sem] theorem y360 : callable Tryd.prog 95 = true := by kernel_rfl
@[go_sem] theorem y361 : esz Tryd.prog 144 = none := by kernel_rfl
@[go_sem] theorem y362 : arr Tryd.prog 144 = some (20, 1) := by kernel_rfl
@[go_sem] theorem y363 : callable Tryd.prog 96 = true := by kernel_rfl
@[go_sem] theorem y364 : isSliceT Tryd.prog 136 = true := by kernel_rfl
@[go_sem] theorem y365 : isStrT Tryd.prog 136 = false := by kernel_rfl
@[go_sem] theorem y366 : esz Tryd.prog 136 = some 1 := by kernel_rfl
@[go_sem] theorem y367 : arr Tryd.prog 136 = none := by kernel_rfl
@[go_sem] theorem y368 : zcells Tryd.prog 145 = some [AVal.lit (Value.int IntKind.u8 0), AVal.lit (Value.int IntKind.u8 0), AVal.lit (Value.int IntKind.u8 0), AVal.lit (Value.int IntKind.u8 0), AVal.lit (Value.int IntKind.u8 0), AVal.lit (Value.int IntKind.u8 0), AVal.lit (Value.int IntKind.u8 0), AVal.lit (Value.int IntKind.u8 0), AVal.lit (Value.int IntKind.u8 0), AVal.lit (Value.int IntKind.u8 0), AVal.lit (Value.int IntKind.u8 0), AVal.lit (Value.int IntKind.u8 0), AVal.lit (Value.int IntKind.u8 0), AVal.lit (Value.int IntKind.u8 0), AVal.lit (Value.int IntKind.u8 0), AVal.lit (Value.int IntKind.u8 0), AVal.lit (Value.int IntKind.u8 0), AVal.lit (Value.int IntKind.u8 0), AVal.lit (Value.int IntKind.u8 0), AVal.lit (Value.int IntKind.u8 0), AVal.lit (Value.int IntKind.u8 0), AVal.lit (Value.int IntKind.u8 0), AVal.lit (Value.int IntKind.u8 0), AVal.lit (Value.int IntKind.u8 0), AVal.lit (Value.int IntKind.u8 0), AVal.lit (Value.int IntKind.u8 0), AVal.lit (Value.int IntKind.u8 0), AVal.lit (Value.int IntKind.u8 0), AVal.lit (Value.int IntKind.u8 0), AVal.lit (Value.int IntKind.u8 0), AVal.lit (Value.int IntKind.u8 0), AVal.lit (Value.int IntKind.u8 0), AVal.lit (Value.int IntKind.u8 0), AVal.lit (Value.int IntKind.u8 0), AVal.lit (Value.int IntKind.u8 0), AVal.lit (Value.int IntKind.u8 0), AVal.lit (Value.int IntKind.u8 0), AVal.lit (Value.int IntKind.u8 0), AVal.lit (Value.int IntKind.u8 0), AVal.lit (Value.int IntKind.u8 0), AVal.lit (Value.int IntKind.u8 0), AVal.lit (Value.int IntKind.u8 0), AVal.lit (Value.int IntKind.u8 0), AVal.lit (Value.int IntKind.u8 0), AVal.lit (Value.int IntKind.u8 0), AVal.lit (Value.int IntKind.u8 0), AVal.lit (Value.int IntKind.u8 0), AVal.lit (Value.int IntKind.u8 0), AVal.lit (Value.int IntKind.u8 0), AVal.lit (Value.int IntKind.u8 0), AVal.lit (Value.int IntKind.u8 0), AVal.lit (Value.int IntKind.u8 0), AVal.lit (Value.int IntKind.u8 0), AVal.lit (Value.int IntKind.u8 0), AVal.lit (Value.int IntKind.u8 0), AVal.lit (Value.int IntKind.u8 0), AVal.lit (Value.int IntKind.u8 0), AVal.lit (Value.int IntKind.u8 0), AVal.lit (Value.int IntKind.u8 0), AVal.lit (Value.int IntKind.u8 0), AVal.lit (Value.int IntKind.u8 0), AVal.lit (Value.int IntKind.u8 0), AVal.lit (Value.int IntKind.u8 0), AVal.lit (Value.int IntKind.u8 0), AVal.lit (Value.int IntKind.u8 0)] := by kernel_rfl
@[go_sem] theorem y369 : arr Tryd.prog 145 = some (65, 1) := by kernel_rfl
@[go_sem] theorem y370 : callable Tryd.prog 97 = true := by kernel_rfl
@[go_sem] theorem y371 : callable Tryd.prog 98 = true := by kernel_rfl
@[go_sem] theorem y372 : esz Tryd.prog 145 = none := by kernel_rfl
@[go_sem] theorem y373 : isStrT Tryd.prog 145 = false := by kernel_rfl
@[go_sem] theorem y374 : ezero Tryd.prog 136 = some (1, 1, [AVal.lit (Value.int IntKind.u8 0)]) := by kernel_rfl
@[go_sem] theorem ap_136 {H0 : Heap} {k id : Nat} {l : List (List AVal)} {y : Option AVal} (hin : accIn H0 id 1 l) (hid : id < k) : aAppend Tryd.prog (AM.look H0) k 136 (some (accV id l)) y = appR 1 1 k id l (y.bind (aSrc (AM.look H0))) := app_acc y374 hin hid
@[go_sem] theorem ln_136 {H0 : Heap} {k id : Nat} {l : List (List AVal)} (hin : accIn H0 id 1 l) : lenO Tryd.prog (AM.look H0) k 136 (some (accV id l)) = some ⟨.lit (.int .i64 (l.length : Int)), k, [], accRds id l⟩ := len_acc (by kernel_rfl) hin
@[go_sem] theorem y375 : callable Tryd.prog 99 = true := by kernel_rfl
@[go_sem] theorem y376 : callable Tryd.prog 100 = true := by kernel_rfl
@[go_sem] theorem y377 : esz Tryd.prog 146 = none := by kernel_rfl
@[go_sem] theorem y378 : arr Tryd.prog 146 = some (32, 1) := by kernel_rfl
@[go_sem] theorem y379 : esz Tryd.prog 147 = none := by kernel_rfl
@[go_sem] theorem y380 : arr Tryd.prog 147 = some (64, 1) := by kernel_rfl
@[go_sem] theorem y381 : zcells Tryd.prog 146 = some [AVal.lit (Value.int IntKind.u8 0), AVal.lit (Value.int IntKind.u8 0), AVal.lit (Value.int IntKind.u8 0), AVal.lit (Value.int IntKind.u8 0), AVal.lit (Value.int IntKind.u8 0), AVal.lit (Value.int IntKind.u8 0), AVal.lit (Value.int IntKind.u8 0), AVal.lit (Value.int IntKind.u8 0), AVal.lit (Value.int IntKind.u8 0), AVal.lit (Value.int IntKind.u8 0), AVal.lit (Value.int IntKind.u8 0), AVal.lit (Value.int IntKind.u8 0), AVal.lit (Value.int IntKind.u8 0), AVal.lit (Value.int IntKind.u8 0), AVal.lit (Value.int IntKind.u8 0), AVal.lit (Value.int IntKind.u8 0), AVal.lit (Value.int IntKind.u8 0), AVal.lit (Value.int IntKind.u8 0), AVal.lit (Value.int IntKind.u8 0), AVal.lit (Value.int IntKind.u8 0), AVal.lit (Value.int IntKind.u8 0), AVal.lit (Value.int IntKind.u8 0), AVal.lit (Value.int IntKind.u8 0), AVal.lit (Value.int IntKind.u8 0), AVal.lit (Value.int IntKind.u8 0), AVal.lit (Value.int IntKind.u8 0), AVal.lit (Value.int IntKind.u8 0), AVal.lit (Value.int IntKind.u8 0), AVal.lit (Value.int IntKind.u8 0), AVal.lit (Value.int IntKind.u8 0), AVal.lit (Value.int IntKind.u8 0), AVal.lit (Value.int IntKind.u8 0)] := by kernel_rfl
@[go_sem] theorem y382 : placesOf Tryd.prog 146 = some { toList := [(0, 1), (1, 1), (2, 1), (3, 1), (4, 1), (5, 1), (6, 1), (7, 1), (8, 1), (9, 1), (10, 1), (11, 1), (12, 1), (13, 1), (14, 1), (15, 1), (16, 1), (17, 1), (18, 1), (19, 1), (20, 1), (21, 1), (22, 1), (23, 1), (24, 1), (25, 1), (26, 1), (27, 1), (28, 1), (29, 1), (30, 1), (31, 1)] } := by kernel_rfl
@[go_sem] theorem y383 : isStructT Tryd.prog 146 = false := by kernel_rfl
@[go_sem] theorem y384 : arrE Tryd.prog 146 = some (32, 1, false) := by kernel_rfl
@[go_sem] theorem y385 : tsz Tryd.prog 146 = some 32 := by kernel_rfl
@[go_sem] theorem y386 : zcells Tryd.prog 147 = some [AVal.lit (Value.int IntKind.u8 0), AVal.lit (Value.int IntKind.u8 0), AVal.lit (Value.int IntKind.u8 0), AVal.lit (Value.int IntKind.u8 0), AVal.lit (Value.int IntKind.u8 0), AVal.lit (Value.int IntKind.u8 0), AVal.lit (Value.int IntKind.u8 0), AVal.lit (Value.int IntKind.u8 0), AVal.lit (Value.int IntKind.u8 0), AVal.lit (Value.int IntKind.u8 0), AVal.lit (Value.int IntKind.u8 0), AVal.lit (Value.int IntKind.u8 0), AVal.lit (Value.int IntKind.u8 0), AVal.lit (Value.int IntKind.u8 0), AVal.lit (Value.int IntKind.u8 0), AVal.lit (Value.int IntKind.u8 0), AVal.lit (Value.int IntKind.u8 0), AVal.lit (Value.int IntKind.u8 0), AVal.lit (Value.int IntKind.u8 0), AVal.lit (Value.int IntKind.u8 0), AVal.lit (Value.int IntKind.u8 0), AVal.lit (Value.int IntKind.u8 0), AVal.lit (Value.int IntKind.u8 0), AVal.lit (Value.int IntKind.u8 0), AVal.lit (Value.int IntKind.u8 0), AVal.lit (Value.int IntKind.u8 0), AVal.lit (Value.int IntKind.u8 0), AVal.lit (Value.int IntKind.u8 0), AVal.lit (Value.int IntKind.u8 0), AVal.lit (Value.int IntKind.u8 0), AVal.lit (Value.int IntKind.u8 0), AVal.lit (Value.int IntKind.u8 0), AVal.lit (Value.int IntKind.u8 0), AVal.lit (Value.int IntKind.u8 0), AVal.lit (Value.int IntKind.u8 0), AVal.lit (Value.int IntKind.u8 0), AVal.lit (Value.int IntKind.u8 0), AVal.lit (Value.int IntKind.u8 0), AVal.lit (Value.int IntKind.u8 0), AVal.lit (Value.int IntKind.u8 0), AVal.lit (Value.int IntKind.u8 0), AVal.lit (Value.int IntKind.u8 0), AVal.lit (Value.int IntKind.u8 0), AVal.lit (Value.int IntKind.u8 0), AVal.lit (Value.int IntKind.u8 0), AVal.lit (Value.int IntKind.u8 0), AVal.lit (Value.int IntKind.u8 0), AVal.lit (Value.int IntKind.u8 0), AVal.lit (Value.int IntKind.u8 0), AVal.lit (Value.int IntKind.u8 0), AVal.lit (Value.int IntKind.u8 0), AVal.lit (Value.int IntKind.u8 0), AVal.lit (Value.int IntKind.u8 0), AVal.lit (Value.int IntKind.u8 0), AVal.lit (Value.int IntKind.u8 0), AVal.lit (Value.int IntKind.u8 0), AVal.lit (Value.int IntKind.u8 0), AVal.lit (Value.int IntKind.u8 0), AVal.lit (Value.int IntKind.u8 0), AVal.lit (Value.int IntKind.u8 0), AVal.lit (Value.int IntKind.u8 0), AVal.lit (Value.int IntKind.u8 0), AVal.lit (Value.int IntKind.u8 0), AVal.lit (Value.int IntKind.u8 0)] := by kernel_rfl
@[go_sem] theorem y387 : placesOf Tryd.prog 147 = some { toList := [(0, 1), (1, 1), (2, 1), (3, 1), (4, 1), (5, 1), (6, 1), (7, 1), (8, 1), (9, 1), (10, 1), (11, 1), (12, 1), (13, 1), (14, 1), (15, 1), (16, 1), (17, 1), (18, 1), (19, 1), (20, 1), (21, 1), (22, 1), (23, 1), (24, 1), (25, 1), (26, 1), (27, 1), (28, 1), (29, 1), (30, 1), (31, 1), (32, 1), (33, 1), (34, 1), (35, 1), (36, 1), (37, 1), (38, 1), (39, 1), (40, 1), (41, 1), (42, 1), (43, 1), (44, 1), (45, 1), (46, 1), (47, 1), (48, 1), (49, 1), (50, 1), (51, 1), (52, 1), (53, 1), (54, 1), (55, 1), (56, 1), (57, 1), (58, 1), (59, 1), (60, 1), (61, 1), (62, 1), (63, 1)] } := by kernel_rfl
@[go_sem] theorem y388 : isStructT Tryd.prog 147 = false := by kernel_rfl
@[go_sem] theorem y389 : arrE Tryd.prog 147 = some (64, 1, false) := by kernel_rfl
@[go_sem] theorem y390 : tsz Tryd.prog 147 = some 64 := by kernel_rfl
@[go_sem] theorem y391 : zcells Tryd.prog 144 = some [AVal.lit (Value.int IntKind.u64 0), AVal.lit (Value.int IntKind.u64 0), AVal.lit (Value.int IntKind.u64 0), AVal.lit (Value.int IntKind.u64 0), AVal.lit (Value.int IntKind.u64 0), AVal.lit (Value.int IntKind.u64 0), AVal.lit (Value.int IntKind.u64 0), AVal.lit (Value.int IntKind.u64 0), AVal.lit (Value.int IntKind.u64 0), AVal.lit (Value.int IntKind.u64 0), AVal.lit (Value.int IntKind.u64 0), AVal.lit (Value.int IntKind.u64 0), AVal.lit (Value.int IntKind.u64 0), AVal.lit (Value.int IntKind.u64 0), AVal.lit (Value.int IntKind.u64 0), AVal.lit (Value.int IntKind.u64 0), AVal.lit (Value.int IntKind.u64 0), AVal.lit (Value.int IntKind.u64 0), AVal.lit (Value.int IntKind.u64 0), AVal.lit (Value.int IntKind.u64 0)] := by kernel_rfl
@[go_sem] theorem y392 : placesOf Tryd.prog 144 = some { toList := [(0, 1), (1, 1), (2, 1), (3, 1), (4, 1), (5, 1), (6, 1), (7, 1), (8, 1), (9, 1), (10, 1), (11, 1), (12, 1), (13, 1), (14, 1), (15, 1), (16, 1), (17, 1), (18, 1), (19, 1)] } := by kernel_rfl
@[go_sem] theorem y393 : isStructT Tryd.prog 144 = false := by kernel_rfl
@[go_sem] theorem y394 : arrE Tryd.prog 144 = some (20, 1, false) := by kernel_rfl
@[go_sem] theorem y395 : tsz Tryd.prog 144 = some 20 := by kernel_rfl
@[go_sem] theorem res_9 : Tryd.f9.results.toList = [.cell 2 30] := by kernel_rfl
@[go_sem] theorem res_16 : Tryd.f16.results.toList = [.cell 0 30] := by kernel_rfl
@[go_sem] theorem res_19 : Tryd.f19.results.toList = [.cell 2 25] := by kernel_rfl
@[go_sem] theorem res_37 : Tryd.f37.results.toList = [.cell 2 30] := by kernel_rfl
@[go_sem] theorem res_59 : Tryd.f59.results.toList = [.cell 2 30] := by kernel_rfl
end Go.AM
end

section
set_option linter.unusedVariables false
set_option linter.unusedSimpArgs false
namespace Go.Proofs.T
open Go Go.AM Go.Proofs
set_option linter.unusedSimpArgs false
set_option linter.unusedVariables false
variable {Γ : List (Nat × List AVal)}
theorem weight_ref (w : Int) : Pure Tryd.prog Γ 48 [.lit (.int .i64 w)] (.lit (.bool (decide (1 ≤ w ∧ w ≤ 65536)))) := by
  refine Pure_at Tryd.func48 rfl 9 rfl (Nat.le_of_ble_eq_true rfl) rfl fun k => ?_
  refine C_seq rfl ?_
  refine S_reg rfl [0,2] [] rfl (fun K hK => ?_); simp -dsimp -implicitDefEqProofs only [go_sem, eq_self, ↓reduceIte]; (refine hK _ _ _ _ (fun hx => ?_)); clear hx hK; simp -dsimp -implicitDefEqProofs only [go_sem, eq_self, ↓reduceIte]
  refine C_seq rfl ?_
  refine S_reg rfl [0,2] [] rfl (fun K hK => ?_); simp -dsimp -implicitDefEqProofs only [go_sem, eq_self, ↓reduceIte]; (repeat' (refine gs_both (fun hg => ?_) (fun hg => ?_) <;> simp only [decide_eq_true_eq, decide_eq_false_iff_not, Bool.not_eq_true', Bool.not_eq_false'] at hg <;> simp -dsimp -implicitDefEqProofs only [go_sem, hg, eq_self, ↓reduceIte])); all_goals ((refine hK _ _ _ _ (fun hx => ?_)); clear hx hK; simp -dsimp -implicitDefEqProofs only [go_sem, eq_self, ↓reduceIte])
  all_goals (refine C_ret rfl ⟨_, rfl, VLe.of_eq ?_⟩)
  all_goals ((simp only [AVal.lit.injEq, Value.bool.injEq]; rw [Bool.eq_iff_iff]; simp only [beq_iff_eq, bne_iff_ne, ne_eq, decide_eq_true_eq, decide_eq_false_iff_not, Bool.and_eq_true, Bool.or_eq_true, Bool.not_eq_true', beq_eq_false_iff_ne, Bool.false_eq_true, Bool.true_eq_false, true_iff, false_iff, iff_true, iff_false]; omega))
theorem weighs (w : Int) : Pure Tryd.prog Γ 71 [.lit (.int .i64 w)] (.lit (.bool (decide (1 ≤ w ∧ w ≤ 65536)))) := by
  refine Pure_at Tryd.func71 rfl 9 rfl (Nat.le_of_ble_eq_true rfl) rfl fun k => ?_
  refine C_seq rfl ?_
  refine S_reg rfl [0,2] [] rfl (fun K hK => ?_); simp -dsimp -implicitDefEqProofs only [go_sem, eq_self, ↓reduceIte]; (refine hK _ _ _ _ (fun hx => ?_)); clear hx hK; simp -dsimp -implicitDefEqProofs only [go_sem, eq_self, ↓reduceIte]
  refine C_seq rfl ?_
  refine S_reg rfl [0,2] [] rfl (fun K hK => ?_); simp -dsimp -implicitDefEqProofs only [go_sem, eq_self, ↓reduceIte]; (repeat' (refine gs_both (fun hg => ?_) (fun hg => ?_) <;> simp only [decide_eq_true_eq, decide_eq_false_iff_not, Bool.not_eq_true', Bool.not_eq_false'] at hg <;> simp -dsimp -implicitDefEqProofs only [go_sem, hg, eq_self, ↓reduceIte])); all_goals ((refine hK _ _ _ _ (fun hx => ?_)); clear hx hK; simp -dsimp -implicitDefEqProofs only [go_sem, eq_self, ↓reduceIte])
  all_goals (refine C_ret rfl ⟨_, rfl, VLe.of_eq ?_⟩)
  all_goals ((simp only [AVal.lit.injEq, Value.bool.injEq]; rw [Bool.eq_iff_iff]; simp only [beq_iff_eq, bne_iff_ne, ne_eq, decide_eq_true_eq, decide_eq_false_iff_not, Bool.and_eq_true, Bool.or_eq_true, Bool.not_eq_true', beq_eq_false_iff_ne, Bool.false_eq_true, Bool.true_eq_false, true_iff, false_iff, iff_true, iff_false]; omega))
def ent (v r w : Int) : Bool := decide (1 ≤ w ∧ w ≤ 65536 ∧ r < w ∧ (v < 18446744073709551615 ∨ r = 0))
theorem chargeRight (v r w : Int) (hw : 0 ≤ w) (hw2 : w < 4294967296) : Pure Tryd.prog Γ 62 [.agg [.lit (.int .u64 v), .lit (.int .u32 r), .lit (.int .u32 w)]] (.lit (.bool (ent v r w))) := by
  refine Pure_at Tryd.func62 rfl 24 rfl (Nat.le_of_ble_eq_true rfl) rfl fun k => ?_
  refine C_seq rfl ?_
  refine S_reg rfl [0,1,2] [] rfl (fun K hK => ?_); simp -dsimp -implicitDefEqProofs only [go_sem, eq_self, ↓reduceIte]; (refine hK _ _ _ _ (fun hx => ?_)); clear hx hK; simp -dsimp -implicitDefEqProofs only [go_sem, eq_self, ↓reduceIte]
  refine C_seq rfl ?_
  refine S_reg rfl [0,1,2] [.ret (.lit (.bool (decide (1 ≤ w ∧ w ≤ 65536))))] rfl (fun K hK => ?_)
  simp -dsimp -implicitDefEqProofs only [go_sem, eq_self, ↓reduceIte]
  rw [wrap_i64 (by omega) (by omega)]
  refine ⟨weighs w, ?_⟩
  (repeat' (refine gs_both (fun hg => ?_) (fun hg => ?_) <;> simp only [decide_eq_true_eq, decide_eq_false_iff_not, Bool.not_eq_true', Bool.not_eq_false'] at hg <;> simp -dsimp -implicitDefEqProofs only [go_sem, hg, eq_self, ↓reduceIte]))
  all_goals ((refine hK _ _ _ _ (fun hx => ?_)); clear hx hK; simp -dsimp -implicitDefEqProofs only [go_sem, eq_self, ↓reduceIte])
  all_goals (refine C_ret rfl ⟨_, rfl, VLe.of_eq ?_⟩)
  all_goals (unfold ent; (simp only [AVal.lit.injEq, Value.bool.injEq]; rw [Bool.eq_iff_iff]; simp only [beq_iff_eq, bne_iff_ne, ne_eq, decide_eq_true_eq, decide_eq_false_iff_not, Bool.and_eq_true, Bool.or_eq_true, Bool.not_eq_true', beq_eq_false_iff_ne, Bool.false_eq_true, Bool.true_eq_false, true_iff, false_iff, iff_true, iff_false]; omega))
theorem entity (v r w : Int) : Pure Tryd.prog Γ 44 [.lit (.int .u64 v), .lit (.int .u32 r), .lit (.int .i64 w)] (.lit (.bool (ent v r w))) := by
  refine Pure_at Tryd.func44 rfl 21 rfl (Nat.le_of_ble_eq_true rfl) rfl fun k => ?_
  refine C_seq rfl ?_
  refine S_reg rfl [0,1,2,6] [] rfl (fun K hK => ?_); simp -dsimp -implicitDefEqProofs only [go_sem, eq_self, ↓reduceIte]; (refine hK _ _ _ _ (fun hx => ?_)); clear hx hK; simp -dsimp -implicitDefEqProofs only [go_sem, eq_self, ↓reduceIte]
  refine C_seq rfl ?_
  refine S_reg rfl [6] [.ret (.lit (.bool (ent v r w)))] rfl (fun K hK => ?_); simp -dsimp -implicitDefEqProofs only [go_sem, eq_self, ↓reduceIte]; (repeat' (first | (refine And.intro ?_ ?_) | (refine gs_both (fun hb => ?_) (fun hb => ?_) <;> (have hg := hb; (try simp only [nfb] at hg); simp -dsimp -implicitDefEqProofs only [go_sem, hb, hg, eq_self, ↓reduceIte]; clear hb; (try simp only [nfe] at hg))))); (any_goals ((refine hK _ _ _ _ (fun hx => ?_)); clear hx hK; simp -dsimp -implicitDefEqProofs only [go_sem, eq_self, ↓reduceIte]; (try simp (disch := omega) only [wrap_i64, wrap_u64, wrap_u32, wrap_u8]))); (all_goals (try omega))
  · rw [wrap_u32 (by omega) (by omega)]; exact chargeRight v r w (by omega) (by omega)
  all_goals (refine C_ret rfl ⟨_, rfl, VLe.of_eq ?_⟩)
  · rfl
  all_goals (unfold ent; (simp only [AVal.lit.injEq, Value.bool.injEq]; rw [Bool.eq_iff_iff]; simp only [beq_iff_eq, bne_iff_ne, ne_eq, decide_eq_true_eq, decide_eq_false_iff_not, Bool.and_eq_true, Bool.or_eq_true, Bool.not_eq_true', beq_eq_false_iff_ne, Bool.false_eq_true, Bool.true_eq_false, true_iff, false_iff, iff_true, iff_false]; omega))
theorem refRight (v r w : Int) (hv : v ≤ 18446744073709551615) (hr : 0 ≤ r) : Pure Tryd.prog Γ 66 [.agg [.lit (.int .u64 v), .lit (.int .u32 r), .lit (.int .u32 w)]] (.lit (.bool (ent v r w))) := by
  refine Pure_at Tryd.func66 rfl 29 rfl (Nat.le_of_ble_eq_true rfl) rfl fun k => ?_
  refine C_seq rfl ?_
  refine S_reg rfl [0,1,2] [] rfl (fun K hK => ?_); simp -dsimp -implicitDefEqProofs only [go_sem, eq_self, ↓reduceIte]; (refine hK _ _ _ _ (fun hx => ?_)); clear hx hK; simp -dsimp -implicitDefEqProofs only [go_sem, eq_self, ↓reduceIte]
  refine C_seq rfl ?_
  refine S_reg rfl [2] [] rfl (fun K hK => ?_); simp -dsimp -implicitDefEqProofs only [go_sem, eq_self, ↓reduceIte]; (repeat' (first | (refine And.intro ?_ ?_) | (refine gs_both (fun hb => ?_) (fun hb => ?_) <;> (have hg := hb; (try simp only [nfb] at hg); simp -dsimp -implicitDefEqProofs only [go_sem, hb, hg, eq_self, ↓reduceIte]; clear hb; (try simp only [nfe] at hg))))); (any_goals ((refine hK _ _ _ _ (fun hx => ?_)); clear hx hK; simp -dsimp -implicitDefEqProofs only [go_sem, eq_self, ↓reduceIte]; (try simp (disch := omega) only [wrap_i64, wrap_u64, wrap_u32, wrap_u8]))); (all_goals (try omega))
  all_goals (refine C_ret rfl ⟨_, rfl, VLe.of_eq ?_⟩)
  all_goals (unfold ent; (simp only [AVal.lit.injEq, Value.bool.injEq]; rw [Bool.eq_iff_iff]; simp only [beq_iff_eq, bne_iff_ne, ne_eq, decide_eq_true_eq, decide_eq_false_iff_not, Bool.and_eq_true, Bool.or_eq_true, Bool.not_eq_true', beq_eq_false_iff_ne, Bool.false_eq_true, Bool.true_eq_false, true_iff, false_iff, iff_true, iff_false]; omega))
theorem entity_ref (v r w : Int) (hv : v ≤ 18446744073709551615) (hr : 0 ≤ r) : Pure Tryd.prog Γ 51 [.lit (.int .u64 v), .lit (.int .u32 r), .lit (.int .i64 w)] (.lit (.bool (ent v r w))) := by
  refine Pure_at Tryd.func51 rfl 17 rfl (Nat.le_of_ble_eq_true rfl) rfl fun k => ?_
  refine C_seq rfl ?_
  refine S_reg rfl [0,1,2,6] [] rfl (fun K hK => ?_); simp -dsimp -implicitDefEqProofs only [go_sem, eq_self, ↓reduceIte]; (refine hK _ _ _ _ (fun hx => ?_)); clear hx hK; simp -dsimp -implicitDefEqProofs only [go_sem, eq_self, ↓reduceIte]
  refine C_seq rfl ?_
  refine S_reg rfl [6] [.ret (.lit (.bool (decide (1 ≤ w ∧ w ≤ 65536)))), .ret (.lit (.bool (ent v r w)))] rfl (fun K hK => ?_); simp -dsimp -implicitDefEqProofs only [go_sem, eq_self, ↓reduceIte]; (repeat' (first | (refine And.intro ?_ ?_) | (refine gs_both (fun hb => ?_) (fun hb => ?_) <;> (have hg := hb; (try simp only [nfb] at hg); simp -dsimp -implicitDefEqProofs only [go_sem, hb, hg, eq_self, ↓reduceIte]; clear hb; (try simp only [nfe] at hg))))); (any_goals ((refine hK _ _ _ _ (fun hx => ?_)); clear hx hK; simp -dsimp -implicitDefEqProofs only [go_sem, eq_self, ↓reduceIte]; (try simp (disch := omega) only [wrap_i64, wrap_u64, wrap_u32, wrap_u8]))); (all_goals (try omega))
  · exact weight_ref w
  · rw [wrap_u32 (by omega) (by omega)]; exact refRight v r w hv hr
  all_goals (refine C_ret rfl ⟨_, rfl, VLe.of_eq ?_⟩)
  · rfl
  all_goals (unfold ent; (simp only [AVal.lit.injEq, Value.bool.injEq]; rw [Bool.eq_iff_iff]; simp only [beq_iff_eq, bne_iff_ne, ne_eq, decide_eq_true_eq, decide_eq_false_iff_not, Bool.and_eq_true, Bool.or_eq_true, Bool.not_eq_true', beq_eq_false_iff_ne, Bool.false_eq_true, Bool.true_eq_false, true_iff, false_iff, iff_true, iff_false]; omega))
end Go.Proofs.T
end

section
set_option linter.unusedVariables false
set_option linter.unusedSimpArgs false
namespace Go.Proofs.T
open Go Go.AM Go.Proofs
set_option linter.unusedSimpArgs false
set_option linter.unusedVariables false
variable {Γ : List (Nat × List AVal)}
structure Tk where
  id : Int
  group : Int
  weight : Int
  cpu : Int
  mask : Int
  ready : Bool
  v : Int
  r : Int
structure Sp where
  v : Int
  r : Int
  floor : Int
structure St where
  cpus : Int
  credit : Int
  ng : Nat
  par : Nat → Int
  wt : Nat → Int
  nk : Nat
  clk : Nat → Int
  nu : Nat
  cur : Nat → Int
  nt : Nat
  tsk : Nat → Tk
  ns : Nat
  nsp : Nat → Nat
  sp : Nat → Nat → Sp
structure Flt where
  r : Int
  a : Int
  b : Int
deriving DecidableEq
abbrev i64 (n : Int) : AVal := .lit (.int .i64 n)
abbrev u64 (n : Int) : AVal := .lit (.int .u64 n)
abbrev u32 (n : Int) : AVal := .lit (.int .u32 n)
abbrev bl (b : Bool) : AVal := .lit (.bool b)
def Flt.row (f : Flt) : List AVal := [.lit (.int .u8 f.r), .lit (.int .i64 f.a), .lit (.int .i64 f.b)]
def gf (s : St) (i : Nat) : List AVal := [.lit (.int .i64 (s.par i)), .lit (.int .i64 (s.wt i))]
def kf (s : St) (i : Nat) : List AVal := [.lit (.int .i64 (s.clk i))]
def uf (s : St) (i : Nat) : List AVal := [.lit (.int .i64 (s.cur i))]
def tf (s : St) (i : Nat) : List AVal := [.lit (.int .i64 (s.tsk i).id), .lit (.int .i64 (s.tsk i).group), .lit (.int .i64 (s.tsk i).weight), .lit (.int .i64 (s.tsk i).cpu), .lit (.int .u64 (s.tsk i).mask), .lit (.bool (s.tsk i).ready), .lit (.int .u64 (s.tsk i).v), .lit (.int .u32 (s.tsk i).r)]
def sf (s : St) (g c : Nat) : List AVal := [.lit (.int .u64 (s.sp g c).v), .lit (.int .u32 (s.sp g c).r), .lit (.int .u64 (s.sp g c).floor)]
def ssf (s : St) (g : Nat) : List AVal := [.rd 3 (s.nsp g) (sf s g)]
def St.cells (s : St) : List AVal := [.lit (.int .i64 s.cpus), .lit (.int .u64 s.credit), .rd 2 s.ng (gf s), .rd 1 s.nk (kf s), .rd 1 s.nu (uf s), .rd 8 s.nt (tf s), .rd 1 s.ns (ssf s)]
attribute [go_sem] gf kf uf tf sf ssf St.cells
def flats (f : Nat → List Flt) : Nat → List Flt
  | 0 => []
  | n + 1 => flats f n ++ f n
theorem flats_zero {f : Nat → List Flt} : flats f 0 = [] := rfl
theorem flats_succ {f : Nat → List Flt} {n : Nat} : flats f (n + 1) = flats f n ++ f n := rfl
theorem flats_len {f : Nat → List Flt} {m : Nat} (h : ∀ i, (f i).length ≤ m) : ∀ n, (flats f n).length ≤ n * m
  | 0 => by simp [flats]
  | n + 1 => by have := flats_len h n; have := h n; simp only [flats, List.length_append, Nat.add_mul, Nat.one_mul]; omega
def shapeAt (s : St) (g : Nat) : List Flt := if (s.nsp g : Int) = s.cpus then [] else [⟨2, 3, g⟩]
theorem shapeAt_len (s : St) (g : Nat) : (shapeAt s g).length ≤ 1 := by unfold shapeAt; split <;> simp
def shapesL (s : St) : List Flt :=
  (if (s.nk : Int) ≠ s.cpus then [⟨2, 0, 0⟩] else []) ++ (if (s.nu : Int) ≠ s.cpus then [⟨2, 1, 0⟩] else []) ++
    (if s.ns ≠ s.ng then [⟨2, 2, 0⟩] else flats (shapeAt s) s.ns)
set_option maxRecDepth 4000
theorem shapes_ref (s : St) (hn : s.ns ≤ 1000) : Pure Tryd.prog Γ 29 [.agg s.cells] (rows 3 ((shapesL s).map Flt.row)) := by
  refine Pure_at Tryd.func29 rfl 60 rfl (Nat.le_of_ble_eq_true rfl) rfl fun k => ?_
  refine C_seq rfl ?_
  refine S_reg rfl [0,1,2,3,4,5,13,22,34,43,53] [] rfl (fun K hK => ?_); simp -dsimp -implicitDefEqProofs only [go_sem, eq_self, ↓reduceIte]; (refine hK _ _ _ _ (fun hx => ?_)); clear hx hK; simp -dsimp -implicitDefEqProofs only [go_sem, eq_self, ↓reduceIte]
  refine C_seq rfl ?_
  refine S_reg rfl [0,1,2,3,4,5,13,22,34,43,53] [] rfl (fun K hK => ?_); simp -dsimp -implicitDefEqProofs only [go_sem, eq_self, ↓reduceIte]; (refine hK _ _ _ _ (fun hx => ?_)); clear hx hK; simp -dsimp -implicitDefEqProofs only [go_sem, eq_self, ↓reduceIte]
  refine C_seq rfl ?_
  refine S_reg rfl [0,1,2,3,4,5,13,22,34,43,53] [] rfl (fun K hK => ?_); simp -dsimp -implicitDefEqProofs only [go_sem, eq_self, ↓reduceIte]; (refine hK _ _ _ _ (fun hx => ?_)); clear hx hK; simp -dsimp -implicitDefEqProofs only [go_sem, eq_self, ↓reduceIte]
  refine M_mid (X := List Flt) rfl (k + 2) (fun l => [(1, .ptr k 0 0), (2, .lit (.slice none 0 0)), (3, accV (k + 1) (List.map Flt.row (l))), (4, .lit (.int .i64 s.cpus))]) (fun l => accH (k + 1) 3 (List.map Flt.row (l)) [(k, ⟨7, true, [St.cells s]⟩)]) (fun l => l = if (s.nk : Int) ≠ s.cpus then [⟨2, 0, 0⟩] else []) ?_ ?_
  · (repeat (first | (refine C_seq rfl ?_) | (refine C_block rfl ?_) | (refine S_reg rfl [1,2,3,4,13] [] rfl (fun K hK => ?_); simp -dsimp -implicitDefEqProofs only [go_sem, eq_self, ↓reduceIte]; (refine hK _ _ _ _ (fun hx => ?_)); clear hx hK; simp -dsimp -implicitDefEqProofs only [go_sem, eq_self, ↓reduceIte]; clear K) | (refine C_skip rfl ?_; simp -dsimp -implicitDefEqProofs only [go_sem, eq_self, ↓reduceIte])))
    refine C_cond rfl _ rfl (fun ht => ?_) (fun hf => ?_)
    · (repeat (first | (refine C_seq rfl ?_) | (refine C_block rfl ?_) | (refine S_reg rfl [1,2,3,4,13] [] rfl (fun K hK => ?_); simp -dsimp -implicitDefEqProofs only [go_sem, eq_self, ↓reduceIte]; (refine hK _ _ _ _ (fun hx => ?_)); clear hx hK; simp -dsimp -implicitDefEqProofs only [go_sem, eq_self, ↓reduceIte]; clear K) | (refine C_skip rfl ?_; simp -dsimp -implicitDefEqProofs only [go_sem, eq_self, ↓reduceIte])))
      refine ⟨[⟨2, 0, 0⟩], by simpa using ht, ?_⟩
      exact Mv.app (k + 2) (k + 1) ⟨by omega, by omega⟩ ⟨by omega, by omega⟩ (wk_low (by omega) (by simp -dsimp -implicitDefEqProofs only [go_sem, List.map_append, List.map_cons, List.map_nil, Flt.row, eq_self, ↓reduceIte]) (by simp -dsimp -implicitDefEqProofs only [go_sem, List.map_append, List.map_cons, List.map_nil, Flt.row, eq_self, ↓reduceIte]) (by simp -dsimp -implicitDefEqProofs only [go_sem, List.map_append, List.map_cons, List.map_nil, Flt.row, eq_self, ↓reduceIte]) (by simp -dsimp -implicitDefEqProofs only [go_sem, List.map_append, List.map_cons, List.map_nil, Flt.row, eq_self, ↓reduceIte]))
    · (repeat (first | (refine C_seq rfl ?_) | (refine C_block rfl ?_) | (refine S_reg rfl [1,2,3,4,13] [] rfl (fun K hK => ?_); simp -dsimp -implicitDefEqProofs only [go_sem, eq_self, ↓reduceIte]; (refine hK _ _ _ _ (fun hx => ?_)); clear hx hK; simp -dsimp -implicitDefEqProofs only [go_sem, eq_self, ↓reduceIte]; clear K) | (refine C_skip rfl ?_; simp -dsimp -implicitDefEqProofs only [go_sem, eq_self, ↓reduceIte])))
      refine ⟨[], by simpa using hf, ?_⟩
      exact Mv.wk (wk_low (by omega) (by simp -dsimp -implicitDefEqProofs only [go_sem, List.map_append, List.map_cons, List.map_nil, Flt.row, eq_self, ↓reduceIte]) (by simp -dsimp -implicitDefEqProofs only [go_sem, List.map_append, List.map_cons, List.map_nil, Flt.row, eq_self, ↓reduceIte]) (by simp -dsimp -implicitDefEqProofs only [go_sem, List.map_append, List.map_cons, List.map_nil, Flt.row, eq_self, ↓reduceIte]) (by simp -dsimp -implicitDefEqProofs only [go_sem, List.map_append, List.map_cons, List.map_nil, Flt.row, eq_self, ↓reduceIte]))
  intro l1 hl1
  refine M_mid (X := List Flt) rfl (k + 2) (fun l => [(1, .ptr k 0 0), (2, .lit (.slice none 0 0)), (3, accV (k + 1) (List.map Flt.row (l))), (4, .lit (.int .i64 s.cpus))]) (fun l => accH (k + 1) 3 (List.map Flt.row (l)) [(k, ⟨7, true, [St.cells s]⟩)]) (fun l => l = l1 ++ if (s.nu : Int) ≠ s.cpus then [⟨2, 1, 0⟩] else []) ?_ ?_
  · (repeat (first | (refine C_seq rfl ?_) | (refine C_block rfl ?_) | (refine S_reg rfl [1,2,3,4,22] [] rfl (fun K hK => ?_); simp -dsimp -implicitDefEqProofs only [go_sem, eq_self, ↓reduceIte]; (refine hK _ _ _ _ (fun hx => ?_)); clear hx hK; simp -dsimp -implicitDefEqProofs only [go_sem, eq_self, ↓reduceIte]; clear K) | (refine C_skip rfl ?_; simp -dsimp -implicitDefEqProofs only [go_sem, eq_self, ↓reduceIte])))
    refine C_cond rfl _ rfl (fun ht => ?_) (fun hf => ?_)
    · have hlen : l1.length ≤ 1 := by rw [hl1]; split <;> simp
      rw [if_pos (by simpa using ht)]
      clear hl1
      rcases l1 with _ | ⟨x1, l1⟩
      all_goals (refine S_reg rfl [1,2,3,4] [] rfl (fun K hK => ?_); simp -dsimp -implicitDefEqProofs only [go_sem, eq_self, ↓reduceIte]; (repeat' (first | (refine And.intro ?_ ?_) | (refine gs_both (fun hb => ?_) (fun hb => ?_) <;> (have hg := hb; (try simp only [nfb] at hg); simp -dsimp -implicitDefEqProofs only [go_sem, hb, hg, eq_self, ↓reduceIte]; clear hb; (try simp only [nfe] at hg))))); (any_goals ((refine hK _ _ _ _ (fun hx => ?_)); clear hx hK; simp -dsimp -implicitDefEqProofs only [go_sem, eq_self, ↓reduceIte]; (try simp (disch := omega) only [wrap_i64, wrap_u64, wrap_u32, wrap_u8]))); (all_goals (try omega)))
      all_goals (try (simp only [List.length_cons] at hlen; omega))
      all_goals (refine ⟨_, rfl, ?_⟩)
      all_goals (exact Mv.app (k + 3) (k + 1) ⟨by omega, by omega⟩ ⟨by omega, by omega⟩ (wk_low (by omega) (by simp -dsimp -implicitDefEqProofs only [go_sem, List.map_append, List.map_cons, List.map_nil, Flt.row, eq_self, ↓reduceIte]) (by simp -dsimp -implicitDefEqProofs only [go_sem, List.map_append, List.map_cons, List.map_nil, Flt.row, eq_self, ↓reduceIte]) (by simp -dsimp -implicitDefEqProofs only [go_sem, List.map_append, List.map_cons, List.map_nil, Flt.row, eq_self, ↓reduceIte]) (by simp -dsimp -implicitDefEqProofs only [go_sem, List.map_append, List.map_cons, List.map_nil, Flt.row, eq_self, ↓reduceIte])))
    · (repeat (first | (refine C_seq rfl ?_) | (refine C_block rfl ?_) | (refine S_reg rfl [1,2,3,4,22] [] rfl (fun K hK => ?_); simp -dsimp -implicitDefEqProofs only [go_sem, eq_self, ↓reduceIte]; (refine hK _ _ _ _ (fun hx => ?_)); clear hx hK; simp -dsimp -implicitDefEqProofs only [go_sem, eq_self, ↓reduceIte]; clear K) | (refine C_skip rfl ?_; simp -dsimp -implicitDefEqProofs only [go_sem, eq_self, ↓reduceIte])))
      refine ⟨l1 ++ [], by rw [if_neg (by simpa using hf)], ?_⟩
      rw [List.append_nil]
      exact Mv.wk (wk_low (by omega) (by simp -dsimp -implicitDefEqProofs only [go_sem, List.map_append, List.map_cons, List.map_nil, Flt.row, eq_self, ↓reduceIte]) (by simp -dsimp -implicitDefEqProofs only [go_sem, List.map_append, List.map_cons, List.map_nil, Flt.row, eq_self, ↓reduceIte]) (by simp -dsimp -implicitDefEqProofs only [go_sem, List.map_append, List.map_cons, List.map_nil, Flt.row, eq_self, ↓reduceIte]) (by simp -dsimp -implicitDefEqProofs only [go_sem, List.map_append, List.map_cons, List.map_nil, Flt.row, eq_self, ↓reduceIte]))
  intro l2 hl2
  have hl2' : l2 = (if (s.nk : Int) ≠ s.cpus then [⟨2, 0, 0⟩] else []) ++ (if (s.nu : Int) ≠ s.cpus then [⟨2, 1, 0⟩] else []) := by rw [hl2, hl1]
  clear hl2 hl1
  have hlen : l2.length ≤ 2 := by rw [hl2']; split <;> split <;> simp
  refine C_seq rfl ?_
  (repeat (first | (refine C_seq rfl ?_) | (refine C_block rfl ?_) | (refine S_reg rfl [1,2,3,4,34] [] rfl (fun K hK => ?_); simp -dsimp -implicitDefEqProofs only [go_sem, eq_self, ↓reduceIte]; (refine hK _ _ _ _ (fun hx => ?_)); clear hx hK; simp -dsimp -implicitDefEqProofs only [go_sem, eq_self, ↓reduceIte]; clear K) | (refine C_skip rfl ?_; simp -dsimp -implicitDefEqProofs only [go_sem, eq_self, ↓reduceIte])))
  refine C_cond rfl _ rfl (fun ht => ?_) (fun hf => ?_)
  · have hne : s.ns ≠ s.ng := by simp only [bne_iff_ne, ne_eq] at ht; omega
    refine C_seq rfl ?_
    generalize hL : (l2 ++ [⟨2, 2, 0⟩] : List Flt) = L
    have hspec : shapesL s = L := by rw [← hL, hl2', shapesL, if_pos hne]
    rcases l2 with _ | ⟨x1, l2⟩
    all_goals (refine S_reg rfl [1,2] [] rfl (fun K hK => ?_); simp -dsimp -implicitDefEqProofs only [go_sem, eq_self, ↓reduceIte]; (repeat' (first | (refine And.intro ?_ ?_) | (refine gs_both (fun hb => ?_) (fun hb => ?_) <;> (have hg := hb; (try simp only [nfb] at hg); simp -dsimp -implicitDefEqProofs only [go_sem, hb, hg, eq_self, ↓reduceIte]; clear hb; (try simp only [nfe] at hg))))); (any_goals ((refine hK _ _ _ _ (fun hx => ?_)); clear hx hK; simp -dsimp -implicitDefEqProofs only [go_sem, eq_self, ↓reduceIte]; (try simp (disch := omega) only [wrap_i64, wrap_u64, wrap_u32, wrap_u8]))); (all_goals (try omega)))
    all_goals (try (simp only [List.length_cons] at hlen; omega))
    all_goals (refine M_racc rfl (id := k + 3) (s := 3) (l := List.map Flt.row L) 2 (by subst hL; simp -dsimp -implicitDefEqProofs only [go_sem, List.map_append, List.map_cons, List.map_nil, Flt.row, eq_self, ↓reduceIte]) (by subst hL; simp -dsimp -implicitDefEqProofs only [go_sem, List.map_append, List.map_cons, List.map_nil, Flt.row, eq_self, ↓reduceIte]) ?_)
    all_goals (exact ⟨_, rfl, by rw [hspec]; exact VLe.refl _⟩)
  · have heq : s.ns = s.ng := by simp only [bne_eq_false_iff_eq] at hf; omega
    refine C_skip rfl ?_; simp -dsimp -implicitDefEqProofs only [go_sem, eq_self, ↓reduceIte]
    (repeat (first | (refine C_seq rfl ?_) | (refine C_block rfl ?_) | (refine S_reg rfl [1,2,3,4,5,43,53] [] rfl (fun K hK => ?_); simp -dsimp -implicitDefEqProofs only [go_sem, eq_self, ↓reduceIte]; (refine hK _ _ _ _ (fun hx => ?_)); clear hx hK; simp -dsimp -implicitDefEqProofs only [go_sem, eq_self, ↓reduceIte]; clear K) | (refine C_skip rfl ?_; simp -dsimp -implicitDefEqProofs only [go_sem, eq_self, ↓reduceIte])))
    refine M_for (X := Nat) rfl (k + 2) (fun i => (5, .lit (.int .i64 (i : Int))) :: [(1, .ptr k 0 0), (2, .lit (.slice none 0 0)), (3, accV (k + 1) (List.map Flt.row ((l2 ++ flats (shapeAt s) (i))))), (4, .lit (.int .i64 s.cpus))]) (fun i => accH (k + 1) 3 (List.map Flt.row ((l2 ++ flats (shapeAt s) (i)))) [(k, ⟨7, true, [St.cells s]⟩)]) (fun i => i ≤ s.ns) (fun i => s.ns - i) 0 ?_ (Nat.zero_le _) ?_
    · simp only [flats_zero, List.append_nil]
      rw [show ((0 : Nat) : Int) = 0 from rfl]
      exact Mv.wk (wk_low (by omega) (by simp -dsimp -implicitDefEqProofs only [go_sem, List.map_append, List.map_cons, List.map_nil, Flt.row, eq_self, ↓reduceIte]) (by simp -dsimp -implicitDefEqProofs only [go_sem, List.map_append, List.map_cons, List.map_nil, Flt.row, eq_self, ↓reduceIte]) (by simp -dsimp -implicitDefEqProofs only [go_sem, List.map_append, List.map_cons, List.map_nil, Flt.row, eq_self, ↓reduceIte]) (by simp -dsimp -implicitDefEqProofs only [go_sem, List.map_append, List.map_cons, List.map_nil, Flt.row, eq_self, ↓reduceIte]))
    intro i hi
    have hfl := flats_len (shapeAt_len s) i
    refine C_seq rfl ?_
    (repeat (first | (refine C_seq rfl ?_) | (refine C_block rfl ?_) | (refine S_reg rfl [1,2,3,4,5,43] [] rfl (fun K hK => ?_); simp -dsimp -implicitDefEqProofs only [go_sem, eq_self, ↓reduceIte]; (refine hK _ _ _ _ (fun hx => ?_)); clear hx hK; simp -dsimp -implicitDefEqProofs only [go_sem, eq_self, ↓reduceIte]; clear K) | (refine C_skip rfl ?_; simp -dsimp -implicitDefEqProofs only [go_sem, eq_self, ↓reduceIte])))
    refine C_cond rfl _ rfl (fun ht => ?_) (fun hf => ?_)
    · simp only [decide_eq_true_eq] at ht
      refine C_skip rfl ?_; simp -dsimp -implicitDefEqProofs only [go_sem, eq_self, ↓reduceIte]
      refine M_mid (X := List Flt) rfl (k + 2) (fun l => (5, .lit (.int .i64 (i : Int))) :: [(1, .ptr k 0 0), (2, .lit (.slice none 0 0)), (3, accV (k + 1) (List.map Flt.row (l))), (4, .lit (.int .i64 s.cpus))]) (fun l => accH (k + 1) 3 (List.map Flt.row (l)) [(k, ⟨7, true, [St.cells s]⟩)]) (fun l => l = (l2 ++ flats (shapeAt s) (i + 1))) ?_ ?_
      · generalize hL : (l2 ++ flats (shapeAt s) (i)) = L
        have hLl : L.length ≤ 1002 := by rw [← hL, List.length_append]; omega
        refine C_block rfl ?_
        refine C_seq rfl ?_
        refine S_reg rfl [1,2,3,4,5,53] [] rfl (fun K hK => ?_); simp -dsimp -implicitDefEqProofs only [go_sem, eq_self, ↓reduceIte]; (repeat' (first | (refine And.intro ?_ ?_) | (refine gs_both (fun hb => ?_) (fun hb => ?_) <;> (have hg := hb; (try simp only [nfb] at hg); simp -dsimp -implicitDefEqProofs only [go_sem, hb, hg, eq_self, ↓reduceIte]; clear hb; (try simp only [nfe] at hg))))); (any_goals ((refine hK _ _ _ _ (fun hx => ?_)); clear hx hK; simp -dsimp -implicitDefEqProofs only [go_sem, eq_self, ↓reduceIte]; (try simp (disch := omega) only [wrap_i64, wrap_u64, wrap_u32, wrap_u8]))); (all_goals (try omega))
        all_goals (try omega)
        refine C_cond rfl _ rfl (fun ht => ?_) (fun hf => ?_)
        · have hne : l2 ++ flats (shapeAt s) (i + 1) = L ++ [⟨2, 3, i⟩] := by
            simp only [bne_iff_ne, ne_eq] at ht
            rw [flats_succ, ← List.append_assoc, hL, shapeAt, if_neg ht]
          rw [hne]
          clear hL hne
          rcases L with _ | ⟨x1, L⟩
          all_goals (refine S_reg rfl [1,2,3,4,5] [] rfl (fun K hK => ?_); simp -dsimp -implicitDefEqProofs only [go_sem, eq_self, ↓reduceIte]; (repeat' (first | (refine And.intro ?_ ?_) | (refine gs_both (fun hb => ?_) (fun hb => ?_) <;> (have hg := hb; (try simp only [nfb] at hg); simp -dsimp -implicitDefEqProofs only [go_sem, hb, hg, eq_self, ↓reduceIte]; clear hb; (try simp only [nfe] at hg))))); (any_goals ((refine hK _ _ _ _ (fun hx => ?_)); clear hx hK; simp -dsimp -implicitDefEqProofs only [go_sem, eq_self, ↓reduceIte]; (try simp (disch := omega) only [wrap_i64, wrap_u64, wrap_u32, wrap_u8]))); (all_goals (try omega)))
          all_goals (try (simp only [List.length_cons] at hLl; omega))
          all_goals (refine ⟨_, rfl, ?_⟩)
          all_goals (exact Mv.app (k + 3) (k + 1) ⟨by omega, by omega⟩ ⟨by omega, by omega⟩ (wk_low (by omega) (by simp -dsimp -implicitDefEqProofs only [go_sem, List.map_append, List.map_cons, List.map_nil, Flt.row, eq_self, ↓reduceIte]) (by simp -dsimp -implicitDefEqProofs only [go_sem, List.map_append, List.map_cons, List.map_nil, Flt.row, eq_self, ↓reduceIte]) (by simp -dsimp -implicitDefEqProofs only [go_sem, List.map_append, List.map_cons, List.map_nil, Flt.row, eq_self, ↓reduceIte]) (by simp -dsimp -implicitDefEqProofs only [go_sem, List.map_append, List.map_cons, List.map_nil, Flt.row, eq_self, ↓reduceIte])))
        · refine C_skip rfl ?_; simp -dsimp -implicitDefEqProofs only [go_sem, eq_self, ↓reduceIte]
          refine ⟨L, by simp only [bne_eq_false_iff_eq] at hf; rw [flats_succ, ← List.append_assoc, hL, shapeAt, if_pos hf, List.append_nil], ?_⟩
          exact Mv.wk (wk_low (by omega) (by simp -dsimp -implicitDefEqProofs only [go_sem, List.map_append, List.map_cons, List.map_nil, Flt.row, eq_self, ↓reduceIte]) (by simp -dsimp -implicitDefEqProofs only [go_sem, List.map_append, List.map_cons, List.map_nil, Flt.row, eq_self, ↓reduceIte]) (by simp -dsimp -implicitDefEqProofs only [go_sem, List.map_append, List.map_cons, List.map_nil, Flt.row, eq_self, ↓reduceIte]) (by simp -dsimp -implicitDefEqProofs only [go_sem, List.map_append, List.map_cons, List.map_nil, Flt.row, eq_self, ↓reduceIte]))
      · intro l hl
        (repeat (first | (refine C_seq rfl ?_) | (refine C_block rfl ?_) | (refine S_reg rfl [1,2,3,4,5] [] rfl (fun K hK => ?_); simp -dsimp -implicitDefEqProofs only [go_sem, eq_self, ↓reduceIte]; (refine hK _ _ _ _ (fun hx => ?_)); clear hx hK; simp -dsimp -implicitDefEqProofs only [go_sem, eq_self, ↓reduceIte]; clear K) | (refine C_skip rfl ?_; simp -dsimp -implicitDefEqProofs only [go_sem, eq_self, ↓reduceIte])))
        refine ⟨i + 1, by omega, by omega, ?_⟩
        rw [wrap_i64 (by omega) (by omega), ← hl, show ((i + 1 : Nat) : Int) = (i : Int) + 1 from rfl]
        exact Mv.wk (wk_low (by omega) (by simp -dsimp -implicitDefEqProofs only [go_sem, List.map_append, List.map_cons, List.map_nil, Flt.row, eq_self, ↓reduceIte]) (by simp -dsimp -implicitDefEqProofs only [go_sem, List.map_append, List.map_cons, List.map_nil, Flt.row, eq_self, ↓reduceIte]) (by simp -dsimp -implicitDefEqProofs only [go_sem, List.map_append, List.map_cons, List.map_nil, Flt.row, eq_self, ↓reduceIte]) (by simp -dsimp -implicitDefEqProofs only [go_sem, List.map_append, List.map_cons, List.map_nil, Flt.row, eq_self, ↓reduceIte]))
    · simp only [decide_eq_false_iff_not] at hf
      refine C_exit rfl ?_
      simp -dsimp -implicitDefEqProofs only [go_sem, eq_self, ↓reduceIte]
      (repeat (first | (refine C_seq rfl ?_) | (refine C_block rfl ?_) | (refine S_reg rfl [1,2,3,4,5] [] rfl (fun K hK => ?_); simp -dsimp -implicitDefEqProofs only [go_sem, eq_self, ↓reduceIte]; (refine hK _ _ _ _ (fun hx => ?_)); clear hx hK; simp -dsimp -implicitDefEqProofs only [go_sem, eq_self, ↓reduceIte]; clear K) | (refine C_skip rfl ?_; simp -dsimp -implicitDefEqProofs only [go_sem, eq_self, ↓reduceIte])))
      have hi' : i = s.ns := by omega
      subst hi'
      refine M_racc rfl (id := k + 1) (s := 3) (l := List.map Flt.row (l2 ++ flats (shapeAt s) s.ns)) 2 (by simp -dsimp -implicitDefEqProofs only [go_sem, List.map_append, List.map_cons, List.map_nil, Flt.row, eq_self, ↓reduceIte]) (by simp -dsimp -implicitDefEqProofs only [go_sem, List.map_append, List.map_cons, List.map_nil, Flt.row, eq_self, ↓reduceIte]) ?_
      exact ⟨_, rfl, by rw [shapesL, ← hl2', if_neg (by simp [heq])]; exact VLe.refl _⟩
end Go.Proofs.T
end

section
set_option linter.unusedVariables false
set_option linter.unusedSimpArgs false
namespace Go.Proofs.T
open Go Go.AM Go.Proofs
set_option linter.unusedSimpArgs false
set_option linter.unusedVariables false
set_option maxRecDepth 4000
variable {Γ : List (Nat × List AVal)}
def anyB (f : Nat → Bool) : Nat → Bool
  | 0 => false
  | n + 1 => anyB f n || f n
theorem anyB_true {f : Nat → Bool} {i : Nat} (h : f i = true) : ∀ {n : Nat}, i < n → anyB f n = true
  | 0, hn => absurd hn (by omega)
  | n + 1, hn => by
    simp only [anyB, Bool.or_eq_true]
    by_cases he : i = n
    · subst he; exact .inr h
    · exact .inl (anyB_true h (by omega))
theorem anyB_iff {f : Nat → Bool} : ∀ {n : Nat}, anyB f n = true ↔ ∃ i, i < n ∧ f i = true
  | 0 => by simp [anyB]
  | n + 1 => by
    simp only [anyB, Bool.or_eq_true, anyB_iff]
    constructor
    · rintro (⟨i, h1, h2⟩ | h)
      · exact ⟨i, by omega, h2⟩
      · exact ⟨n, by omega, h⟩
    · rintro ⟨i, h1, h2⟩
      by_cases he : i = n
      · subst he; exact .inr h2
      · exact .inl ⟨i, by omega, h2⟩
def isReady (s : St) (id c : Int) (i : Nat) : Bool := decide ((s.tsk i).id = id) && ((s.tsk i).ready && decide ((s.tsk i).cpu = c))
theorem ready_ref (s : St) (id c : Int) (hn : s.nt ≤ 1000) : Pure Tryd.prog Γ 52 [.agg s.cells, .lit (.int .i64 id), .lit (.int .i64 c)] (.lit (.bool (anyB (isReady s id c) s.nt))) := by
  refine Pure_at Tryd.func52 rfl 41 rfl (Nat.le_of_ble_eq_true rfl) rfl fun k => ?_
  (repeat (first | (refine C_seq rfl ?_) | (refine C_block rfl ?_) | (refine S_reg rfl [1,2,3,6,7] [] rfl (fun K hK => ?_); simp -dsimp -implicitDefEqProofs only [go_sem, eq_self, ↓reduceIte]; (refine hK _ _ _ _ (fun hx => ?_)); clear hx hK; simp -dsimp -implicitDefEqProofs only [go_sem, eq_self, ↓reduceIte]; clear K) | (refine C_skip rfl ?_; simp -dsimp -implicitDefEqProofs only [go_sem, eq_self, ↓reduceIte])))
  refine M_for (X := Nat) rfl (k + 1) (fun i => [(1, .lit (.int .i64 id)), (2, .lit (.int .i64 c)), (3, .ptr k 0 0), (7, .lit (.int .i64 (i : Int)))]) (fun i => [(k, ⟨7, true, [St.cells s]⟩)]) (fun i => i ≤ s.nt ∧ anyB (isReady s id c) i = false) (fun i => s.nt - i) 0 ?_ ⟨Nat.zero_le _, rfl⟩ ?_
  · rw [show ((0 : Nat) : Int) = 0 from rfl]
    exact Mv.wk (wk_low (by omega) (by simp -dsimp -implicitDefEqProofs only [go_sem, List.map_append, List.map_cons, List.map_nil, Flt.row, eq_self, ↓reduceIte]) (by simp -dsimp -implicitDefEqProofs only [go_sem, List.map_append, List.map_cons, List.map_nil, Flt.row, eq_self, ↓reduceIte]) (by simp -dsimp -implicitDefEqProofs only [go_sem, List.map_append, List.map_cons, List.map_nil, Flt.row, eq_self, ↓reduceIte]) (by simp -dsimp -implicitDefEqProofs only [go_sem, List.map_append, List.map_cons, List.map_nil, Flt.row, eq_self, ↓reduceIte]))
  rintro i ⟨hi, hany⟩
  refine C_seq rfl ?_
  (repeat (first | (refine C_seq rfl ?_) | (refine C_block rfl ?_) | (refine S_reg rfl [1,2,3,7,12] [] rfl (fun K hK => ?_); simp -dsimp -implicitDefEqProofs only [go_sem, eq_self, ↓reduceIte]; (refine hK _ _ _ _ (fun hx => ?_)); clear hx hK; simp -dsimp -implicitDefEqProofs only [go_sem, eq_self, ↓reduceIte]; clear K) | (refine C_skip rfl ?_; simp -dsimp -implicitDefEqProofs only [go_sem, eq_self, ↓reduceIte])))
  refine C_cond rfl _ rfl (fun ht => ?_) (fun hf => ?_)
  · simp only [decide_eq_true_eq] at ht
    refine C_skip rfl ?_; simp -dsimp -implicitDefEqProofs only [go_sem, eq_self, ↓reduceIte]
    refine M_mid (X := Unit) rfl (k + 1) (fun _ => [(1, .lit (.int .i64 id)), (2, .lit (.int .i64 c)), (3, .ptr k 0 0), (7, .lit (.int .i64 (i : Int)))]) (fun _ => [(k, ⟨7, true, [St.cells s]⟩)]) (fun _ => isReady s id c i = false) ?_ ?_
    · refine C_block rfl ?_
      refine C_seq rfl ?_
      refine S_reg rfl [1,2,3,7,40] [] rfl (fun K hK => ?_); simp -dsimp -implicitDefEqProofs only [go_sem, eq_self, ↓reduceIte]; (repeat' (first | (refine And.intro ?_ ?_) | (refine gs_both (fun hb => ?_) (fun hb => ?_) <;> (have hg := hb; (try simp only [nfb] at hg); simp -dsimp -implicitDefEqProofs only [go_sem, hb, hg, eq_self, ↓reduceIte]; clear hb; (try simp only [nfe] at hg))))); (any_goals ((refine hK _ _ _ _ (fun hx => ?_)); clear hx hK; simp -dsimp -implicitDefEqProofs only [go_sem, eq_self, ↓reduceIte]; (try simp (disch := omega) only [wrap_i64, wrap_u64, wrap_u32, wrap_u8]))); (all_goals (try omega))
      all_goals (try omega)
      all_goals (refine C_cond rfl _ rfl (fun ht => ?_) (fun hf => ?_))
      all_goals (first | (have hrt : isReady s id c i = true := by (simp only [isReady, Bool.and_eq_true, decide_eq_true_eq]; simp_all)) | (have hrf : isReady s id c i = false := by (simp only [isReady, Bool.and_eq_false_iff, decide_eq_false_iff_not]; simp_all)) | (exact absurd ht (by simp)))
      all_goals (first | ((repeat (first | (refine C_seq rfl ?_) | (refine C_block rfl ?_) | (refine S_reg rfl [6] [] rfl (fun K hK => ?_); simp -dsimp -implicitDefEqProofs only [go_sem, eq_self, ↓reduceIte]; (refine hK _ _ _ _ (fun hx => ?_)); clear hx hK; simp -dsimp -implicitDefEqProofs only [go_sem, eq_self, ↓reduceIte]; clear K) | (refine C_skip rfl ?_; simp -dsimp -implicitDefEqProofs only [go_sem, eq_self, ↓reduceIte]))); refine C_ret rfl ⟨_, rfl, VLe.of_eq ?_⟩; rw [anyB_true hrt (by omega)]) | (refine C_skip rfl ?_; simp -dsimp -implicitDefEqProofs only [go_sem, eq_self, ↓reduceIte]; exact ⟨(), hrf, by exact Mv.wk (wk_low (by omega) (by simp -dsimp -implicitDefEqProofs only [go_sem, List.map_append, List.map_cons, List.map_nil, Flt.row, eq_self, ↓reduceIte]) (by simp -dsimp -implicitDefEqProofs only [go_sem, List.map_append, List.map_cons, List.map_nil, Flt.row, eq_self, ↓reduceIte]) (by simp -dsimp -implicitDefEqProofs only [go_sem, List.map_append, List.map_cons, List.map_nil, Flt.row, eq_self, ↓reduceIte]) (by simp -dsimp -implicitDefEqProofs only [go_sem, List.map_append, List.map_cons, List.map_nil, Flt.row, eq_self, ↓reduceIte]))⟩))
    · rintro _ hrf
      (repeat (first | (refine C_seq rfl ?_) | (refine C_block rfl ?_) | (refine S_reg rfl [1,2,3,7] [] rfl (fun K hK => ?_); simp -dsimp -implicitDefEqProofs only [go_sem, eq_self, ↓reduceIte]; (refine hK _ _ _ _ (fun hx => ?_)); clear hx hK; simp -dsimp -implicitDefEqProofs only [go_sem, eq_self, ↓reduceIte]; clear K) | (refine C_skip rfl ?_; simp -dsimp -implicitDefEqProofs only [go_sem, eq_self, ↓reduceIte])))
      refine ⟨i + 1, ⟨by omega, by rw [anyB, hany, hrf]; rfl⟩, by omega, ?_⟩
      rw [wrap_i64 (by omega) (by omega), show ((i + 1 : Nat) : Int) = (i : Int) + 1 from rfl]
      exact Mv.wk (wk_low (by omega) (by simp -dsimp -implicitDefEqProofs only [go_sem, List.map_append, List.map_cons, List.map_nil, Flt.row, eq_self, ↓reduceIte]) (by simp -dsimp -implicitDefEqProofs only [go_sem, List.map_append, List.map_cons, List.map_nil, Flt.row, eq_self, ↓reduceIte]) (by simp -dsimp -implicitDefEqProofs only [go_sem, List.map_append, List.map_cons, List.map_nil, Flt.row, eq_self, ↓reduceIte]) (by simp -dsimp -implicitDefEqProofs only [go_sem, List.map_append, List.map_cons, List.map_nil, Flt.row, eq_self, ↓reduceIte]))
  · simp only [decide_eq_false_iff_not] at hf
    refine C_exit rfl ?_
    simp -dsimp -implicitDefEqProofs only [go_sem, eq_self, ↓reduceIte]
    (repeat (first | (refine C_seq rfl ?_) | (refine C_block rfl ?_) | (refine S_reg rfl [6] [] rfl (fun K hK => ?_); simp -dsimp -implicitDefEqProofs only [go_sem, eq_self, ↓reduceIte]; (refine hK _ _ _ _ (fun hx => ?_)); clear hx hK; simp -dsimp -implicitDefEqProofs only [go_sem, eq_self, ↓reduceIte]; clear K) | (refine C_skip rfl ?_; simp -dsimp -implicitDefEqProofs only [go_sem, eq_self, ↓reduceIte])))
    have hi' : i = s.nt := by omega
    subst hi'
    refine C_ret rfl ⟨_, rfl, VLe.of_eq ?_⟩
    rw [hany]
theorem half_pow (m : Int) (i : Nat) (hm : 0 ≤ m) : (m / 2 ^ i).tdiv 2 = m / 2 ^ (i + 1) := by
  rw [Int.tdiv_eq_ediv_of_nonneg (Int.ediv_nonneg hm (Int.le_of_lt (Int.pow_pos (by omega)))), Int.ediv_ediv_of_nonneg (Int.le_of_lt (Int.pow_pos (by omega))), Int.pow_succ]
theorem pow_bd (m : Int) (i : Nat) (hm : 0 ≤ m) : 0 ≤ m / 2 ^ i ∧ m / 2 ^ i ≤ m :=
  ⟨Int.ediv_nonneg hm (Int.le_of_lt (Int.pow_pos (by omega))), Int.ediv_le_self _ hm⟩
def bitB (m : Int) (c : Nat) : Bool := decide (m / 2 ^ c % 2 = 1)
theorem bit_ref (m c : Int) (hm : 0 ≤ m) (hm2 : m < 18446744073709551616) (hc : c ≤ 9223372036854775807) : Pure Tryd.prog Γ 65 [.lit (.int .u64 m), .lit (.int .i64 c)] (.lit (.bool (bitB m c.toNat))) := by
  refine Pure_at Tryd.func65 rfl 16 rfl (Nat.le_of_ble_eq_true rfl) rfl fun k => ?_
  (repeat (first | (refine C_seq rfl ?_) | (refine C_block rfl ?_) | (refine S_reg rfl [0,1,4,5,8] [] rfl (fun K hK => ?_); simp -dsimp -implicitDefEqProofs only [go_sem, eq_self, ↓reduceIte]; (refine hK _ _ _ _ (fun hx => ?_)); clear hx hK; simp -dsimp -implicitDefEqProofs only [go_sem, eq_self, ↓reduceIte]; clear K) | (refine C_skip rfl ?_; simp -dsimp -implicitDefEqProofs only [go_sem, eq_self, ↓reduceIte])))
  refine M_for (X := Nat) rfl k (fun i => [(0, .lit (.int .u64 (m / 2 ^ i))), (1, .lit (.int .i64 c)), (5, .lit (.int .i64 (i : Int)))]) (fun _ => []) (fun i => i ≤ c.toNat) (fun i => c.toNat - i) 0 ?_ (Nat.zero_le _) ?_
  · rw [show ((0 : Nat) : Int) = 0 from rfl, Int.pow_zero, Int.ediv_one]
    exact Mv.wk (wk_low (by omega) (by simp -dsimp -implicitDefEqProofs only [go_sem, List.map_append, List.map_cons, List.map_nil, Flt.row, eq_self, ↓reduceIte]) (by simp -dsimp -implicitDefEqProofs only [go_sem, List.map_append, List.map_cons, List.map_nil, Flt.row, eq_self, ↓reduceIte]) (by simp -dsimp -implicitDefEqProofs only [go_sem, List.map_append, List.map_cons, List.map_nil, Flt.row, eq_self, ↓reduceIte]) (by simp -dsimp -implicitDefEqProofs only [go_sem, List.map_append, List.map_cons, List.map_nil, Flt.row, eq_self, ↓reduceIte]))
  intro i hi
  have hb := pow_bd m i hm
  (repeat (first | (refine C_seq rfl ?_) | (refine C_block rfl ?_) | (refine S_reg rfl [0,1,4,5,8] [] rfl (fun K hK => ?_); simp -dsimp -implicitDefEqProofs only [go_sem, eq_self, ↓reduceIte]; (refine hK _ _ _ _ (fun hx => ?_)); clear hx hK; simp -dsimp -implicitDefEqProofs only [go_sem, eq_self, ↓reduceIte]; clear K) | (refine C_skip rfl ?_; simp -dsimp -implicitDefEqProofs only [go_sem, eq_self, ↓reduceIte])))
  refine C_cond rfl _ rfl (fun ht => ?_) (fun hf => ?_)
  · simp only [decide_eq_true_eq] at ht
    (repeat (first | (refine C_seq rfl ?_) | (refine C_block rfl ?_) | (refine S_reg rfl [0,1,4,5,8] [] rfl (fun K hK => ?_); simp -dsimp -implicitDefEqProofs only [go_sem, eq_self, ↓reduceIte]; (refine hK _ _ _ _ (fun hx => ?_)); clear hx hK; simp -dsimp -implicitDefEqProofs only [go_sem, eq_self, ↓reduceIte]; clear K) | (refine C_skip rfl ?_; simp -dsimp -implicitDefEqProofs only [go_sem, eq_self, ↓reduceIte])))
    refine ⟨i + 1, by omega, by omega, ?_⟩
    rw [half_pow m i hm, wrap_u64 (pow_bd m (i + 1) hm).1 (by have := (pow_bd m (i + 1) hm).2; omega), wrap_i64 (by omega) (by omega), show ((i + 1 : Nat) : Int) = (i : Int) + 1 from rfl]
    exact Mv.wk (wk_low (by omega) (by simp -dsimp -implicitDefEqProofs only [go_sem, List.map_append, List.map_cons, List.map_nil, Flt.row, eq_self, ↓reduceIte]) (by simp -dsimp -implicitDefEqProofs only [go_sem, List.map_append, List.map_cons, List.map_nil, Flt.row, eq_self, ↓reduceIte]) (by simp -dsimp -implicitDefEqProofs only [go_sem, List.map_append, List.map_cons, List.map_nil, Flt.row, eq_self, ↓reduceIte]) (by simp -dsimp -implicitDefEqProofs only [go_sem, List.map_append, List.map_cons, List.map_nil, Flt.row, eq_self, ↓reduceIte]))
  · simp only [decide_eq_false_iff_not] at hf
    refine C_exit rfl ?_
    simp -dsimp -implicitDefEqProofs only [go_sem, eq_self, ↓reduceIte]
    (repeat (first | (refine C_seq rfl ?_) | (refine C_block rfl ?_) | (refine S_reg rfl [0,1,4,5,8] [] rfl (fun K hK => ?_); simp -dsimp -implicitDefEqProofs only [go_sem, eq_self, ↓reduceIte]; (refine hK _ _ _ _ (fun hx => ?_)); clear hx hK; simp -dsimp -implicitDefEqProofs only [go_sem, eq_self, ↓reduceIte]; clear K) | (refine C_skip rfl ?_; simp -dsimp -implicitDefEqProofs only [go_sem, eq_self, ↓reduceIte])))
    have hi' : i = c.toNat := by omega
    subst hi'
    refine C_ret rfl ⟨_, rfl, VLe.of_eq ?_⟩
    have h1 : (m / 2 ^ c.toNat).tmod 2 = m / 2 ^ c.toNat % 2 := Int.tmod_eq_emod_of_nonneg hb.1
    rw [h1]
    simp only [AVal.lit.injEq, Value.bool.injEq, bitB]
    rw [Bool.eq_iff_iff]; simp
end Go.Proofs.T
end
