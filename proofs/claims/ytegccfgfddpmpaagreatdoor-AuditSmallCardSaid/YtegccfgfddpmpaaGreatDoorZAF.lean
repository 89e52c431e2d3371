import Derived.Test.YtegccfgfddpmpaaGreatDoorZAE
import Derived.Test.YtegccfgfddpmpaaGreatDoorProg
import Derived.KernelRfl
import Derived.Laws.Bits64

section
set_option linter.unusedVariables false
set_option linter.unusedSimpArgs false
namespace Go.AM
open Go.Proofs
set_option maxRecDepth 100000
@[go_sem] theorem y1 : callable Tryz.prog 1 = false := by kernel_rfl
@[go_sem] theorem y2 : arr Tryz.prog 23 = none := by kernel_rfl
@[go_sem] theorem y3 : tagg Tryz.prog 23 = some true := by kernel_rfl
@[go_sem] theorem y4 : tsz Tryz.prog 23 = some 3 := by kernel_rfl
@[go_sem] theorem y5 : callable Tryz.prog 5 = true := by kernel_rfl
@[go_sem] theorem y6 : callable Tryz.prog 6 = true := by kernel_rfl
@[go_sem] theorem y7 : zcells Tryz.prog 37 = some [AVal.lit (Value.int IntKind.i64 0), AVal.lit (Value.int IntKind.i64 0)] := by kernel_rfl
@[go_sem] theorem y8 : placesOf Tryz.prog 37 = some { toList := [(0, 1), (1, 1)] } := by kernel_rfl
@[go_sem] theorem y9 : isStructT Tryz.prog 37 = true := by kernel_rfl
@[go_sem] theorem y10 : arrE Tryz.prog 37 = none := by kernel_rfl
@[go_sem] theorem y11 : ezero Tryz.prog 27 = some (2, 16, [AVal.lit (Value.int IntKind.i64 0), AVal.lit (Value.int IntKind.i64 0)]) := by kernel_rfl
@[go_sem] theorem ap_27 {H0 : Heap} {k id : Nat} {l : List (List AVal)} {y : Option AVal} (hin : accIn H0 id 2 l) (hid : id < k) : aAppend Tryz.prog (AM.look H0) k 27 (some (accV id l)) y = appR 2 16 k id l (y.bind (aSrc (AM.look H0))) := app_acc y11 hin hid
@[go_sem] theorem ln_27 {H0 : Heap} {k id : Nat} {l : List (List AVal)} (hin : accIn H0 id 2 l) : lenO Tryz.prog (AM.look H0) k 27 (some (accV id l)) = some ⟨.lit (.int .i64 (l.length : Int)), k, [], accRds id l⟩ := len_acc (by kernel_rfl) hin
@[go_sem] theorem y12 : zcells Tryz.prog 29 = some [AVal.lit (Value.int IntKind.i64 0), AVal.lit (Value.int IntKind.u64 0), AVal.lit (Value.slice none 0 0)] := by kernel_rfl
@[go_sem] theorem y13 : placesOf Tryz.prog 29 = some { toList := [(0, 1), (1, 1), (2, 1)] } := by kernel_rfl
@[go_sem] theorem y14 : isStructT Tryz.prog 29 = true := by kernel_rfl
@[go_sem] theorem y15 : arrE Tryz.prog 29 = none := by kernel_rfl
@[go_sem] theorem y16 : callable Tryz.prog 7 = true := by kernel_rfl
@[go_sem] theorem y17 : zcells Tryz.prog 34 = some [AVal.lit (Value.int IntKind.i64 0), AVal.lit (Value.int IntKind.u64 0), AVal.lit (Value.slice none 0 0), AVal.lit (Value.slice none 0 0), AVal.lit (Value.slice none 0 0), AVal.lit (Value.slice none 0 0), AVal.lit (Value.slice none 0 0)] := by kernel_rfl
@[go_sem] theorem y18 : arr Tryz.prog 34 = none := by kernel_rfl
@[go_sem] theorem y19 : tsz Tryz.prog 34 = some 7 := by kernel_rfl
@[go_sem] theorem y20 : zcells Tryz.prog 40 = some [AVal.lit (Value.int IntKind.i64 0), AVal.lit (Value.int IntKind.i64 0), AVal.lit (Value.int IntKind.i64 0), AVal.lit (Value.int IntKind.i64 0), AVal.lit (Value.int IntKind.u64 0), AVal.lit (Value.bool false), AVal.lit (Value.int IntKind.u64 0), AVal.lit (Value.int IntKind.u32 0)] := by kernel_rfl
@[go_sem] theorem y21 : placesOf Tryz.prog 40 = some { toList := [(0, 1), (1, 1), (2, 1), (3, 1), (4, 1), (5, 1), (6, 1), (7, 1)] } := by kernel_rfl
@[go_sem] theorem y22 : isStructT Tryz.prog 40 = true := by kernel_rfl
@[go_sem] theorem y23 : arrE Tryz.prog 40 = none := by kernel_rfl
@[go_sem] theorem y24 : ezero Tryz.prog 31 = some (8, 64, [AVal.lit (Value.int IntKind.i64 0), AVal.lit (Value.int IntKind.i64 0), AVal.lit (Value.int IntKind.i64 0), AVal.lit (Value.int IntKind.i64 0), AVal.lit (Value.int IntKind.u64 0), AVal.lit (Value.bool false), AVal.lit (Value.int IntKind.u64 0), AVal.lit (Value.int IntKind.u32 0)]) := by kernel_rfl
@[go_sem] theorem ap_31 {H0 : Heap} {k id : Nat} {l : List (List AVal)} {y : Option AVal} (hin : accIn H0 id 8 l) (hid : id < k) : aAppend Tryz.prog (AM.look H0) k 31 (some (accV id l)) y = appR 8 64 k id l (y.bind (aSrc (AM.look H0))) := app_acc y24 hin hid
@[go_sem] theorem ln_31 {H0 : Heap} {k id : Nat} {l : List (List AVal)} (hin : accIn H0 id 8 l) : lenO Tryz.prog (AM.look H0) k 31 (some (accV id l)) = some ⟨.lit (.int .i64 (l.length : Int)), k, [], accRds id l⟩ := len_acc (by kernel_rfl) hin
@[go_sem] theorem y25 : fieldOff Tryz.prog 34 3 = some 5 := by kernel_rfl
@[go_sem] theorem y26 : tsz Tryz.prog 31 = some 1 := by kernel_rfl
@[go_sem] theorem y27 : ezero Tryz.prog 30 = some (1, 8, [AVal.lit (Value.int IntKind.i64 0)]) := by kernel_rfl
@[go_sem] theorem ap_30 {H0 : Heap} {k id : Nat} {l : List (List AVal)} {y : Option AVal} (hin : accIn H0 id 1 l) (hid : id < k) : aAppend Tryz.prog (AM.look H0) k 30 (some (accV id l)) y = appR 1 8 k id l (y.bind (aSrc (AM.look H0))) := app_acc y27 hin hid
@[go_sem] theorem ln_30 {H0 : Heap} {k id : Nat} {l : List (List AVal)} (hin : accIn H0 id 1 l) : lenO Tryz.prog (AM.look H0) k 30 (some (accV id l)) = some ⟨.lit (.int .i64 (l.length : Int)), k, [], accRds id l⟩ := len_acc (by kernel_rfl) hin
@[go_sem] theorem y28 : fieldOff Tryz.prog 34 2 = some 4 := by kernel_rfl
@[go_sem] theorem y29 : tsz Tryz.prog 30 = some 1 := by kernel_rfl
@[go_sem] theorem y30 : fieldOff Tryz.prog 34 4 = some 6 := by kernel_rfl
@[go_sem] theorem y31 : tagg Tryz.prog 32 = some false := by kernel_rfl
@[go_sem] theorem y32 : tsz Tryz.prog 32 = some 1 := by kernel_rfl
@[go_sem] theorem y33 : esz Tryz.prog 32 = some 1 := by kernel_rfl
@[go_sem] theorem y34 : arr Tryz.prog 32 = none := by kernel_rfl
@[go_sem] theorem y35 : tagg Tryz.prog 43 = some false := by kernel_rfl
@[go_sem] theorem y36 : tsz Tryz.prog 43 = some 1 := by kernel_rfl
@[go_sem] theorem y37 : zcells Tryz.prog 42 = some [AVal.lit (Value.int IntKind.u64 0), AVal.lit (Value.int IntKind.u32 0), AVal.lit (Value.int IntKind.u64 0)] := by kernel_rfl
@[go_sem] theorem y38 : placesOf Tryz.prog 42 = some { toList := [(0, 1), (1, 1), (2, 1)] } := by kernel_rfl
@[go_sem] theorem y39 : isStructT Tryz.prog 42 = true := by kernel_rfl
@[go_sem] theorem y40 : arrE Tryz.prog 42 = none := by kernel_rfl
@[go_sem] theorem y41 : esz Tryz.prog 43 = some 3 := by kernel_rfl
@[go_sem] theorem y42 : arr Tryz.prog 43 = none := by kernel_rfl
@[go_sem] theorem y43 : fieldOff Tryz.prog 42 2 = some 2 := by kernel_rfl
@[go_sem] theorem y44 : tsz Tryz.prog 26 = some 1 := by kernel_rfl
@[go_sem] theorem y45 : tsz Tryz.prog 42 = some 3 := by kernel_rfl
@[go_sem] theorem y46 : tagg Tryz.prog 34 = some true := by kernel_rfl
@[go_sem] theorem y47 : callable Tryz.prog 8 = true := by kernel_rfl
@[go_sem] theorem y48 : callable Tryz.prog 9 = true := by kernel_rfl
@[go_sem] theorem y49 : callable Tryz.prog 10 = true := by kernel_rfl
@[go_sem] theorem y50 : isSliceT Tryz.prog 30 = true := by kernel_rfl
@[go_sem] theorem y51 : isStrT Tryz.prog 30 = false := by kernel_rfl
@[go_sem] theorem y52 : esz Tryz.prog 30 = some 1 := by kernel_rfl
@[go_sem] theorem y53 : arr Tryz.prog 30 = none := by kernel_rfl
@[go_sem] theorem y54 : tagg Tryz.prog 3 = some false := by kernel_rfl
@[go_sem] theorem y55 : tsz Tryz.prog 3 = some 1 := by kernel_rfl
@[go_sem] theorem y56 : ikind Tryz.prog 3 = some IntKind.i64 := by kernel_rfl
@[go_sem] theorem y57 : ikind Tryz.prog 5 = some IntKind.u8 := by kernel_rfl
@[go_sem] theorem y58 : isStrT Tryz.prog 5 = false := by kernel_rfl
@[go_sem] theorem y59 : zcells Tryz.prog 23 = some [AVal.lit (Value.int IntKind.u8 0), AVal.lit (Value.int IntKind.i64 0), AVal.lit (Value.int IntKind.i64 0)] := by kernel_rfl
@[go_sem] theorem y60 : placesOf Tryz.prog 23 = some { toList := [(0, 1), (1, 1), (2, 1)] } := by kernel_rfl
@[go_sem] theorem y61 : isStructT Tryz.prog 23 = true := by kernel_rfl
@[go_sem] theorem y62 : arrE Tryz.prog 23 = none := by kernel_rfl
@[go_sem] theorem y63 : callable Tryz.prog 11 = true := by kernel_rfl
@[go_sem] theorem y64 : esz Tryz.prog 47 = some 1 := by kernel_rfl
@[go_sem] theorem y65 : arr Tryz.prog 47 = none := by kernel_rfl
@[go_sem] theorem y66 : tagg Tryz.prog 9 = some false := by kernel_rfl
@[go_sem] theorem y67 : tsz Tryz.prog 9 = some 1 := by kernel_rfl
@[go_sem] theorem y68 : ezero Tryz.prog 47 = some (1, 16, [AVal.lit (Value.string { data := { toList := [] } })]) := by kernel_rfl
@[go_sem] theorem ap_47 {H0 : Heap} {k id : Nat} {l : List (List AVal)} {y : Option AVal} (hin : accIn H0 id 1 l) (hid : id < k) : aAppend Tryz.prog (AM.look H0) k 47 (some (accV id l)) y = appR 1 16 k id l (y.bind (aSrc (AM.look H0))) := app_acc y68 hin hid
@[go_sem] theorem ln_47 {H0 : Heap} {k id : Nat} {l : List (List AVal)} (hin : accIn H0 id 1 l) : lenO Tryz.prog (AM.look H0) k 47 (some (accV id l)) = some ⟨.lit (.int .i64 (l.length : Int)), k, [], accRds id l⟩ := len_acc (by kernel_rfl) hin
@[go_sem] theorem y69 : isSliceT Tryz.prog 47 = true := by kernel_rfl
@[go_sem] theorem y70 : isStrT Tryz.prog 47 = false := by kernel_rfl
@[go_sem] theorem y71 : isSliceT Tryz.prog 9 = false := by kernel_rfl
@[go_sem] theorem y72 : isStrT Tryz.prog 9 = true := by kernel_rfl
@[go_sem] theorem y73 : esz Tryz.prog 9 = none := by kernel_rfl
@[go_sem] theorem y74 : arr Tryz.prog 9 = none := by kernel_rfl
@[go_sem] theorem y75 : placesOf Tryz.prog 34 = some { toList := [(0, 3), (3, 1), (4, 1), (5, 1), (6, 1)] } := by kernel_rfl
@[go_sem] theorem y76 : isStructT Tryz.prog 34 = true := by kernel_rfl
@[go_sem] theorem y77 : arrE Tryz.prog 34 = none := by kernel_rfl
@[go_sem] theorem y78 : callable Tryz.prog 12 = true := by kernel_rfl
@[go_sem] theorem y79 : isSliceT Tryz.prog 49 = true := by kernel_rfl
@[go_sem] theorem y80 : isStrT Tryz.prog 49 = false := by kernel_rfl
@[go_sem] theorem y81 : tagOf Tryz.prog 3 = some 0 := by kernel_rfl
@[go_sem] theorem y82 : eqOffs Tryz.prog 3 = none := by kernel_rfl
@[go_sem] theorem y83 : refT Tryz.prog 3 = none := by kernel_rfl
@[go_sem] theorem y84 : fieldOff Tryz.prog 23 0 = some 0 := by kernel_rfl
@[go_sem] theorem y85 : tagg Tryz.prog 5 = some false := by kernel_rfl
@[go_sem] theorem y86 : tsz Tryz.prog 5 = some 1 := by kernel_rfl
@[go_sem] theorem y87 : callable Tryz.prog 13 = true := by kernel_rfl
@[go_sem] theorem y88 : callable Tryz.prog 14 = true := by kernel_rfl
@[go_sem] theorem y89 : callable Tryz.prog 15 = true := by kernel_rfl
@[go_sem] theorem y90 : callable Tryz.prog 16 = true := by kernel_rfl
@[go_sem] theorem y91 : zcells Tryz.prog 56 = some [AVal.lit (Value.int IntKind.u8 0), AVal.lit (Value.int IntKind.i64 0), AVal.lit (Value.int IntKind.i64 0)] := by kernel_rfl
@[go_sem] theorem y92 : arr Tryz.prog 56 = none := by kernel_rfl
@[go_sem] theorem y93 : tsz Tryz.prog 56 = some 3 := by kernel_rfl
@[go_sem] theorem y94 : callable Tryz.prog 17 = true := by kernel_rfl
@[go_sem] theorem y95 : tagOf Tryz.prog 9 = some 2 := by kernel_rfl
@[go_sem] theorem y96 : eqOffs Tryz.prog 9 = none := by kernel_rfl
@[go_sem] theorem y97 : refT Tryz.prog 9 = none := by kernel_rfl
@[go_sem] theorem y98 : tagg Tryz.prog 56 = some true := by kernel_rfl
@[go_sem] theorem y99 : tagOf Tryz.prog 56 = none := by kernel_rfl
@[go_sem] theorem y100 : eqOffs Tryz.prog 56 = some [(0, 0), (1, 0), (2, 0)] := by kernel_rfl
@[go_sem] theorem y101 : refT Tryz.prog 56 = none := by kernel_rfl
@[go_sem] theorem y102 : callable Tryz.prog 19 = true := by kernel_rfl
@[go_sem] theorem y103 : callable Tryz.prog 18 = true := by kernel_rfl
@[go_sem] theorem y104 : callable Tryz.prog 20 = true := by kernel_rfl
@[go_sem] theorem y105 : fieldOff Tryz.prog 34 1 = some 3 := by kernel_rfl
@[go_sem] theorem y106 : ezero Tryz.prog 65 = some (7, 136, [AVal.lit (Value.int IntKind.i64 0), AVal.lit (Value.int IntKind.u64 0), AVal.lit (Value.slice none 0 0), AVal.lit (Value.slice none 0 0), AVal.lit (Value.slice none 0 0), AVal.lit (Value.slice none 0 0), AVal.lit (Value.slice none 0 0)]) := by kernel_rfl
@[go_sem] theorem ap_65 {H0 : Heap} {k id : Nat} {l : List (List AVal)} {y : Option AVal} (hin : accIn H0 id 7 l) (hid : id < k) : aAppend Tryz.prog (AM.look H0) k 65 (some (accV id l)) y = appR 7 136 k id l (y.bind (aSrc (AM.look H0))) := app_acc y106 hin hid
@[go_sem] theorem ln_65 {H0 : Heap} {k id : Nat} {l : List (List AVal)} (hin : accIn H0 id 7 l) : lenO Tryz.prog (AM.look H0) k 65 (some (accV id l)) = some ⟨.lit (.int .i64 (l.length : Int)), k, [], accRds id l⟩ := len_acc (by kernel_rfl) hin
@[go_sem] theorem y107 : isSliceT Tryz.prog 65 = true := by kernel_rfl
@[go_sem] theorem y108 : isStrT Tryz.prog 65 = false := by kernel_rfl
@[go_sem] theorem y109 : esz Tryz.prog 65 = some 7 := by kernel_rfl
@[go_sem] theorem y110 : arr Tryz.prog 65 = none := by kernel_rfl
@[go_sem] theorem y111 : ezero Tryz.prog 66 = some (1, 24, [AVal.lit (Value.slice none 0 0)]) := by kernel_rfl
@[go_sem] theorem ap_66 {H0 : Heap} {k id : Nat} {l : List (List AVal)} {y : Option AVal} (hin : accIn H0 id 1 l) (hid : id < k) : aAppend Tryz.prog (AM.look H0) k 66 (some (accV id l)) y = appR 1 24 k id l (y.bind (aSrc (AM.look H0))) := app_acc y111 hin hid
@[go_sem] theorem ln_66 {H0 : Heap} {k id : Nat} {l : List (List AVal)} (hin : accIn H0 id 1 l) : lenO Tryz.prog (AM.look H0) k 66 (some (accV id l)) = some ⟨.lit (.int .i64 (l.length : Int)), k, [], accRds id l⟩ := len_acc (by kernel_rfl) hin
@[go_sem] theorem y112 : esz Tryz.prog 66 = some 1 := by kernel_rfl
@[go_sem] theorem y113 : arr Tryz.prog 66 = none := by kernel_rfl
@[go_sem] theorem y114 : tagg Tryz.prog 47 = some false := by kernel_rfl
@[go_sem] theorem y115 : tsz Tryz.prog 47 = some 1 := by kernel_rfl
@[go_sem] theorem y116 : callable Tryz.prog 21 = true := by kernel_rfl
@[go_sem] theorem y117 : tagOf Tryz.prog 51 = some 0 := by kernel_rfl
@[go_sem] theorem y118 : eqOffs Tryz.prog 51 = none := by kernel_rfl
@[go_sem] theorem y119 : refT Tryz.prog 51 = none := by kernel_rfl
@[go_sem] theorem y120 : arr Tryz.prog 29 = none := by kernel_rfl
@[go_sem] theorem y121 : tagg Tryz.prog 29 = some true := by kernel_rfl
@[go_sem] theorem y122 : tsz Tryz.prog 29 = some 3 := by kernel_rfl
@[go_sem] theorem y123 : fieldOff Tryz.prog 29 0 = some 0 := by kernel_rfl
@[go_sem] theorem y124 : callable Tryz.prog 22 = true := by kernel_rfl
@[go_sem] theorem y125 : fieldOff Tryz.prog 29 2 = some 2 := by kernel_rfl
@[go_sem] theorem y126 : tagg Tryz.prog 27 = some false := by kernel_rfl
@[go_sem] theorem y127 : tsz Tryz.prog 27 = some 1 := by kernel_rfl
@[go_sem] theorem y128 : isSliceT Tryz.prog 27 = true := by kernel_rfl
@[go_sem] theorem y129 : isStrT Tryz.prog 27 = false := by kernel_rfl
@[go_sem] theorem y130 : ezero Tryz.prog 43 = some (3, 24, [AVal.lit (Value.int IntKind.u64 0), AVal.lit (Value.int IntKind.u32 0), AVal.lit (Value.int IntKind.u64 0)]) := by kernel_rfl
@[go_sem] theorem ap_43 {H0 : Heap} {k id : Nat} {l : List (List AVal)} {y : Option AVal} (hin : accIn H0 id 3 l) (hid : id < k) : aAppend Tryz.prog (AM.look H0) k 43 (some (accV id l)) y = appR 3 24 k id l (y.bind (aSrc (AM.look H0))) := app_acc y130 hin hid
@[go_sem] theorem ln_43 {H0 : Heap} {k id : Nat} {l : List (List AVal)} (hin : accIn H0 id 3 l) : lenO Tryz.prog (AM.look H0) k 43 (some (accV id l)) = some ⟨.lit (.int .i64 (l.length : Int)), k, [], accRds id l⟩ := len_acc (by kernel_rfl) hin
@[go_sem] theorem y131 : ezero Tryz.prog 32 = some (1, 24, [AVal.lit (Value.slice none 0 0)]) := by kernel_rfl
@[go_sem] theorem ap_32 {H0 : Heap} {k id : Nat} {l : List (List AVal)} {y : Option AVal} (hin : accIn H0 id 1 l) (hid : id < k) : aAppend Tryz.prog (AM.look H0) k 32 (some (accV id l)) y = appR 1 24 k id l (y.bind (aSrc (AM.look H0))) := app_acc y131 hin hid
@[go_sem] theorem ln_32 {H0 : Heap} {k id : Nat} {l : List (List AVal)} (hin : accIn H0 id 1 l) : lenO Tryz.prog (AM.look H0) k 32 (some (accV id l)) = some ⟨.lit (.int .i64 (l.length : Int)), k, [], accRds id l⟩ := len_acc (by kernel_rfl) hin
@[go_sem] theorem y132 : callable Tryz.prog 23 = true := by kernel_rfl
@[go_sem] theorem y133 : tagg Tryz.prog 31 = some false := by kernel_rfl
@[go_sem] theorem y134 : isSliceT Tryz.prog 31 = true := by kernel_rfl
@[go_sem] theorem y135 : isStrT Tryz.prog 31 = false := by kernel_rfl
@[go_sem] theorem y136 : fieldOff Tryz.prog 34 0 = some 0 := by kernel_rfl
@[go_sem] theorem y137 : isSliceT Tryz.prog 32 = true := by kernel_rfl
@[go_sem] theorem y138 : isStrT Tryz.prog 32 = false := by kernel_rfl
@[go_sem] theorem y139 : isSliceT Tryz.prog 43 = true := by kernel_rfl
@[go_sem] theorem y140 : isStrT Tryz.prog 43 = false := by kernel_rfl
@[go_sem] theorem y141 : tagg Tryz.prog 30 = some false := by kernel_rfl
@[go_sem] theorem y142 : esz Tryz.prog 31 = some 8 := by kernel_rfl
@[go_sem] theorem y143 : arr Tryz.prog 31 = none := by kernel_rfl
@[go_sem] theorem y144 : esz Tryz.prog 27 = some 2 := by kernel_rfl
@[go_sem] theorem y145 : arr Tryz.prog 27 = none := by kernel_rfl
@[go_sem] theorem y146 : fieldOff Tryz.prog 37 1 = some 1 := by kernel_rfl
@[go_sem] theorem y147 : fieldOff Tryz.prog 37 0 = some 0 := by kernel_rfl
@[go_sem] theorem y148 : fieldOff Tryz.prog 29 1 = some 1 := by kernel_rfl
@[go_sem] theorem y149 : tagg Tryz.prog 26 = some false := by kernel_rfl
@[go_sem] theorem y150 : fieldOff Tryz.prog 40 0 = some 0 := by kernel_rfl
@[go_sem] theorem y151 : fieldOff Tryz.prog 40 1 = some 1 := by kernel_rfl
@[go_sem] theorem y152 : fieldOff Tryz.prog 40 3 = some 3 := by kernel_rfl
@[go_sem] theorem y153 : fieldOff Tryz.prog 40 4 = some 4 := by kernel_rfl
@[go_sem] theorem y154 : fieldOff Tryz.prog 40 7 = some 7 := by kernel_rfl
@[go_sem] theorem y155 : tsz Tryz.prog 38 = some 1 := by kernel_rfl
@[go_sem] theorem y156 : fieldOff Tryz.prog 40 2 = some 2 := by kernel_rfl
@[go_sem] theorem y157 : fieldOff Tryz.prog 42 1 = some 1 := by kernel_rfl
@[go_sem] theorem y158 : fieldOff Tryz.prog 42 0 = some 0 := by kernel_rfl
@[go_sem] theorem y159 : fieldOff Tryz.prog 40 6 = some 6 := by kernel_rfl
@[go_sem] theorem y160 : callable Tryz.prog 24 = true := by kernel_rfl
@[go_sem] theorem y161 : callable Tryz.prog 26 = true := by kernel_rfl
@[go_sem] theorem y162 : callable Tryz.prog 25 = true := by kernel_rfl
@[go_sem] theorem y163 : callable Tryz.prog 27 = true := by kernel_rfl
@[go_sem] theorem y164 : callable Tryz.prog 28 = true := by kernel_rfl
@[go_sem] theorem y165 : zcells Tryz.prog 78 = some [AVal.lit (Value.int IntKind.i64 0), AVal.lit (Value.int IntKind.u64 0), AVal.lit (Value.slice none 0 0), AVal.lit (Value.slice none 0 0), AVal.lit (Value.slice none 0 0), AVal.lit (Value.slice none 0 0), AVal.lit (Value.slice none 0 0), AVal.lit (Value.slice none 0 0)] := by kernel_rfl
@[go_sem] theorem y166 : placesOf Tryz.prog 78 = some { toList := [(0, 7), (7, 1)] } := by kernel_rfl
@[go_sem] theorem y167 : isStructT Tryz.prog 78 = true := by kernel_rfl
@[go_sem] theorem y168 : arrE Tryz.prog 78 = none := by kernel_rfl
@[go_sem] theorem y169 : arr Tryz.prog 78 = none := by kernel_rfl
@[go_sem] theorem y170 : callable Tryz.prog 29 = true := by kernel_rfl
@[go_sem] theorem y171 : ezero Tryz.prog 49 = some (3, 24, [AVal.lit (Value.int IntKind.u8 0), AVal.lit (Value.int IntKind.i64 0), AVal.lit (Value.int IntKind.i64 0)]) := by kernel_rfl
@[go_sem] theorem ap_49 {H0 : Heap} {k id : Nat} {l : List (List AVal)} {y : Option AVal} (hin : accIn H0 id 3 l) (hid : id < k) : aAppend Tryz.prog (AM.look H0) k 49 (some (accV id l)) y = appR 3 24 k id l (y.bind (aSrc (AM.look H0))) := app_acc y171 hin hid
@[go_sem] theorem ln_49 {H0 : Heap} {k id : Nat} {l : List (List AVal)} (hin : accIn H0 id 3 l) : lenO Tryz.prog (AM.look H0) k 49 (some (accV id l)) = some ⟨.lit (.int .i64 (l.length : Int)), k, [], accRds id l⟩ := len_acc (by kernel_rfl) hin
@[go_sem] theorem y172 : ezero Tryz.prog 81 = some (1, 8, [AVal.lit Value.nilFunc]) := by kernel_rfl
@[go_sem] theorem ap_81 {H0 : Heap} {k id : Nat} {l : List (List AVal)} {y : Option AVal} (hin : accIn H0 id 1 l) (hid : id < k) : aAppend Tryz.prog (AM.look H0) k 81 (some (accV id l)) y = appR 1 8 k id l (y.bind (aSrc (AM.look H0))) := app_acc y172 hin hid
@[go_sem] theorem ln_81 {H0 : Heap} {k id : Nat} {l : List (List AVal)} (hin : accIn H0 id 1 l) : lenO Tryz.prog (AM.look H0) k 81 (some (accV id l)) = some ⟨.lit (.int .i64 (l.length : Int)), k, [], accRds id l⟩ := len_acc (by kernel_rfl) hin
@[go_sem] theorem y173 : zcells Tryz.prog 82 = some [AVal.lit (Value.slice none 0 0), AVal.lit (Value.slice none 0 0), AVal.lit (Value.slice none 0 0)] := by kernel_rfl
@[go_sem] theorem y174 : placesOf Tryz.prog 82 = some { toList := [(0, 1), (1, 1), (2, 1)] } := by kernel_rfl
@[go_sem] theorem y175 : isStructT Tryz.prog 82 = false := by kernel_rfl
@[go_sem] theorem y176 : arrE Tryz.prog 82 = some (3, 1, false) := by kernel_rfl
@[go_sem] theorem y177 : arr Tryz.prog 82 = some (3, 1) := by kernel_rfl
@[go_sem] theorem y178 : tsz Tryz.prog 82 = some 3 := by kernel_rfl
@[go_sem] theorem y179 : tagg Tryz.prog 82 = some true := by kernel_rfl
@[go_sem] theorem y180 : isStrT Tryz.prog 82 = false := by kernel_rfl
@[go_sem] theorem y181 : isSliceT Tryz.prog 81 = true := by kernel_rfl
@[go_sem] theorem y182 : isStrT Tryz.prog 81 = false := by kernel_rfl
@[go_sem] theorem y183 : esz Tryz.prog 81 = some 1 := by kernel_rfl
@[go_sem] theorem y184 : arr Tryz.prog 81 = none := by kernel_rfl
@[go_sem] theorem y185 : tagg Tryz.prog 80 = some false := by kernel_rfl
@[go_sem] theorem y186 : tsz Tryz.prog 80 = some 1 := by kernel_rfl
@[go_sem] theorem y187 : fieldOff Tryz.prog 78 1 = some 7 := by kernel_rfl
@[go_sem] theorem y188 : tagg Tryz.prog 49 = some false := by kernel_rfl
@[go_sem] theorem y189 : tsz Tryz.prog 49 = some 1 := by kernel_rfl
@[go_sem] theorem y190 : callable Tryz.prog 35 = true := by kernel_rfl
@[go_sem] theorem y191 : fieldOff Tryz.prog 23 1 = some 1 := by kernel_rfl
@[go_sem] theorem y192 : fieldOff Tryz.prog 23 2 = some 2 := by kernel_rfl
@[go_sem] theorem y193 : callable Tryz.prog 36 = true := by kernel_rfl
@[go_sem] theorem y194 : fieldOff Tryz.prog 56 0 = some 0 := by kernel_rfl
@[go_sem] theorem y195 : fieldOff Tryz.prog 56 1 = some 1 := by kernel_rfl
@[go_sem] theorem y196 : fieldOff Tryz.prog 56 2 = some 2 := by kernel_rfl
@[go_sem] theorem y197 : callable Tryz.prog 37 = true := by kernel_rfl
@[go_sem] theorem y198 : callable Tryz.prog 38 = true := by kernel_rfl
@[go_sem] theorem y199 : callable Tryz.prog 39 = true := by kernel_rfl
@[go_sem] theorem y200 : callable Tryz.prog 40 = true := by kernel_rfl
@[go_sem] theorem y201 : arrE Tryz.prog 9 = none := by kernel_rfl
@[go_sem] theorem y202 : tagOf Tryz.prog 5 = some 0 := by kernel_rfl
@[go_sem] theorem y203 : eqOffs Tryz.prog 5 = none := by kernel_rfl
@[go_sem] theorem y204 : refT Tryz.prog 5 = none := by kernel_rfl
@[go_sem] theorem y205 : placesOf Tryz.prog 56 = some { toList := [(0, 1), (1, 1), (2, 1)] } := by kernel_rfl
@[go_sem] theorem y206 : isStructT Tryz.prog 56 = true := by kernel_rfl
@[go_sem] theorem y207 : arrE Tryz.prog 56 = none := by kernel_rfl
@[go_sem] theorem y208 : zcells Tryz.prog 92 = some [AVal.lit (Value.string { data := { toList := [] } }), AVal.lit (Value.string { data := { toList := [] } }), AVal.lit (Value.string { data := { toList := [] } }), AVal.lit (Value.string { data := { toList := [] } }), AVal.lit (Value.string { data := { toList := [] } }), AVal.lit (Value.string { data := { toList := [] } }), AVal.lit (Value.string { data := { toList := [] } }), AVal.lit (Value.string { data := { toList := [] } }), AVal.lit (Value.string { data := { toList := [] } }), AVal.lit (Value.string { data := { toList := [] } }), AVal.lit (Value.string { data := { toList := [] } }), AVal.lit (Value.string { data := { toList := [] } }), AVal.lit (Value.string { data := { toList := [] } }), AVal.lit (Value.string { data := { toList := [] } }), AVal.lit (Value.string { data := { toList := [] } }), AVal.lit (Value.string { data := { toList := [] } }), AVal.lit (Value.string { data := { toList := [] } }), AVal.lit (Value.string { data := { toList := [] } })] := by kernel_rfl
@[go_sem] theorem y209 : placesOf Tryz.prog 92 = some { toList := [(0, 1), (1, 1), (2, 1), (3, 1), (4, 1), (5, 1), (6, 1), (7, 1), (8, 1), (9, 1), (10, 1), (11, 1), (12, 1), (13, 1), (14, 1), (15, 1), (16, 1), (17, 1)] } := by kernel_rfl
@[go_sem] theorem y210 : isStructT Tryz.prog 92 = false := by kernel_rfl
@[go_sem] theorem y211 : arrE Tryz.prog 92 = some (18, 1, false) := by kernel_rfl
@[go_sem] theorem y212 : arr Tryz.prog 92 = some (18, 1) := by kernel_rfl
@[go_sem] theorem y213 : tsz Tryz.prog 92 = some 18 := by kernel_rfl
@[go_sem] theorem y214 : esz Tryz.prog 92 = none := by kernel_rfl
@[go_sem] theorem y215 : esz Tryz.prog 49 = some 3 := by kernel_rfl
@[go_sem] theorem y216 : arr Tryz.prog 49 = none := by kernel_rfl
@[go_sem] theorem y217 : tagOf Tryz.prog 26 = some 0 := by kernel_rfl
@[go_sem] theorem y218 : eqOffs Tryz.prog 26 = none := by kernel_rfl
@[go_sem] theorem y219 : refT Tryz.prog 26 = none := by kernel_rfl
@[go_sem] theorem y220 : callable Tryz.prog 42 = true := by kernel_rfl
@[go_sem] theorem y221 : callable Tryz.prog 41 = true := by kernel_rfl
@[go_sem] theorem y222 : callable Tryz.prog 43 = true := by kernel_rfl
@[go_sem] theorem y223 : tagg Tryz.prog 42 = some true := by kernel_rfl
@[go_sem] theorem y224 : arr Tryz.prog 42 = none := by kernel_rfl
@[go_sem] theorem y225 : callable Tryz.prog 44 = true := by kernel_rfl
@[go_sem] theorem y226 : callable Tryz.prog 45 = true := by kernel_rfl
@[go_sem] theorem y227 : isSliceT Tryz.prog 72 = true := by kernel_rfl
@[go_sem] theorem y228 : isStrT Tryz.prog 72 = false := by kernel_rfl
@[go_sem] theorem y229 : esz Tryz.prog 72 = some 3 := by kernel_rfl
@[go_sem] theorem y230 : arr Tryz.prog 72 = none := by kernel_rfl
@[go_sem] theorem y231 : callable Tryz.prog 46 = true := by kernel_rfl
@[go_sem] theorem y232 : ezero Tryz.prog 72 = some (3, 24, [AVal.lit (Value.int IntKind.u8 0), AVal.lit (Value.int IntKind.i64 0), AVal.lit (Value.int IntKind.i64 0)]) := by kernel_rfl
@[go_sem] theorem ap_72 {H0 : Heap} {k id : Nat} {l : List (List AVal)} {y : Option AVal} (hin : accIn H0 id 3 l) (hid : id < k) : aAppend Tryz.prog (AM.look H0) k 72 (some (accV id l)) y = appR 3 24 k id l (y.bind (aSrc (AM.look H0))) := app_acc y232 hin hid
@[go_sem] theorem ln_72 {H0 : Heap} {k id : Nat} {l : List (List AVal)} (hin : accIn H0 id 3 l) : lenO Tryz.prog (AM.look H0) k 72 (some (accV id l)) = some ⟨.lit (.int .i64 (l.length : Int)), k, [], accRds id l⟩ := len_acc (by kernel_rfl) hin
@[go_sem] theorem y233 : callable Tryz.prog 47 = true := by kernel_rfl
@[go_sem] theorem y234 : callable Tryz.prog 48 = true := by kernel_rfl
@[go_sem] theorem y235 : callable Tryz.prog 49 = true := by kernel_rfl
@[go_sem] theorem y236 : callable Tryz.prog 50 = true := by kernel_rfl
@[go_sem] theorem y237 : callable Tryz.prog 51 = true := by kernel_rfl
@[go_sem] theorem y238 : callable Tryz.prog 52 = true := by kernel_rfl
@[go_sem] theorem y239 : callable Tryz.prog 53 = true := by kernel_rfl
@[go_sem] theorem y240 : callable Tryz.prog 54 = true := by kernel_rfl
@[go_sem] theorem y241 : fieldOff Tryz.prog 78 0 = some 0 := by kernel_rfl
@[go_sem] theorem y242 : zcells Tryz.prog 3 = some [AVal.lit (Value.int IntKind.i64 0)] := by kernel_rfl
@[go_sem] theorem y243 : arr Tryz.prog 3 = none := by kernel_rfl
@[go_sem] theorem y244 : callable Tryz.prog 55 = true := by kernel_rfl
@[go_sem] theorem y245 : callable Tryz.prog 56 = true := by kernel_rfl
@[go_sem] theorem y246 : tagg Tryz.prog 40 = some true := by kernel_rfl
@[go_sem] theorem y247 : tsz Tryz.prog 40 = some 8 := by kernel_rfl
@[go_sem] theorem y248 : arr Tryz.prog 40 = none := by kernel_rfl
@[go_sem] theorem y249 : tagg Tryz.prog 38 = some false := by kernel_rfl
@[go_sem] theorem y250 : callable Tryz.prog 57 = true := by kernel_rfl
@[go_sem] theorem y251 : tagOf Tryz.prog 38 = some 0 := by kernel_rfl
@[go_sem] theorem y252 : eqOffs Tryz.prog 38 = none := by kernel_rfl
@[go_sem] theorem y253 : refT Tryz.prog 38 = none := by kernel_rfl
@[go_sem] theorem y254 : ezero Tryz.prog 105 = some (1, 8, [AVal.lit (Value.pointer none)]) := by kernel_rfl
@[go_sem] theorem ap_105 {H0 : Heap} {k id : Nat} {l : List (List AVal)} {y : Option AVal} (hin : accIn H0 id 1 l) (hid : id < k) : aAppend Tryz.prog (AM.look H0) k 105 (some (accV id l)) y = appR 1 8 k id l (y.bind (aSrc (AM.look H0))) := app_acc y254 hin hid
@[go_sem] theorem ln_105 {H0 : Heap} {k id : Nat} {l : List (List AVal)} (hin : accIn H0 id 1 l) : lenO Tryz.prog (AM.look H0) k 105 (some (accV id l)) = some ⟨.lit (.int .i64 (l.length : Int)), k, [], accRds id l⟩ := len_acc (by kernel_rfl) hin
@[go_sem] theorem y255 : zcells Tryz.prog 105 = some [AVal.lit (Value.slice none 0 0)] := by kernel_rfl
@[go_sem] theorem y256 : arr Tryz.prog 105 = none := by kernel_rfl
@[go_sem] theorem y257 : tsz Tryz.prog 105 = some 1 := by kernel_rfl
@[go_sem] theorem y258 : callable Tryz.prog 58 = true := by kernel_rfl
@[go_sem] theorem y259 : fieldOff Tryz.prog 40 5 = some 5 := by kernel_rfl
@[go_sem] theorem y260 : tagg Tryz.prog 4 = some false := by kernel_rfl
@[go_sem] theorem y261 : tsz Tryz.prog 4 = some 1 := by kernel_rfl
@[go_sem] theorem y262 : tagg Tryz.prog 105 = some false := by kernel_rfl
@[go_sem] theorem y263 : isSliceT Tryz.prog 105 = true := by kernel_rfl
@[go_sem] theorem y264 : isStrT Tryz.prog 105 = false := by kernel_rfl
@[go_sem] theorem y265 : esz Tryz.prog 105 = some 1 := by kernel_rfl
@[go_sem] theorem y266 : tagg Tryz.prog 106 = some false := by kernel_rfl
@[go_sem] theorem y267 : tsz Tryz.prog 106 = some 1 := by kernel_rfl
@[go_sem] theorem y268 : tagOf Tryz.prog 106 = none := by kernel_rfl
@[go_sem] theorem y269 : eqOffs Tryz.prog 106 = none := by kernel_rfl
@[go_sem] theorem y270 : refT Tryz.prog 106 = some 0 := by kernel_rfl
@[go_sem] theorem y271 : callable Tryz.prog 59 = true := by kernel_rfl
@[go_sem] theorem y272 : callable Tryz.prog 61 = true := by kernel_rfl
@[go_sem] theorem y273 : ikind Tryz.prog 21 = some IntKind.i32 := by kernel_rfl
@[go_sem] theorem y274 : isStrT Tryz.prog 21 = false := by kernel_rfl
@[go_sem] theorem y275 : ikind Tryz.prog 9 = none := by kernel_rfl
@[go_sem] theorem y276 : callable Tryz.prog 62 = true := by kernel_rfl
@[go_sem] theorem y277 : callable Tryz.prog 63 = true := by kernel_rfl
@[go_sem] theorem y278 : tagOf Tryz.prog 87 = none := by kernel_rfl
@[go_sem] theorem y279 : eqOffs Tryz.prog 87 = none := by kernel_rfl
@[go_sem] theorem y280 : refT Tryz.prog 87 = none := by kernel_rfl
@[go_sem] theorem y281 : callable Tryz.prog 64 = true := by kernel_rfl
@[go_sem] theorem y282 : isStrT Tryz.prog 3 = false := by kernel_rfl
@[go_sem] theorem y283 : tagg Tryz.prog 37 = some true := by kernel_rfl
@[go_sem] theorem y284 : tsz Tryz.prog 37 = some 2 := by kernel_rfl
@[go_sem] theorem y285 : arr Tryz.prog 37 = none := by kernel_rfl
@[go_sem] theorem y286 : callable Tryz.prog 65 = true := by kernel_rfl
@[go_sem] theorem y287 : callable Tryz.prog 66 = true := by kernel_rfl
@[go_sem] theorem y288 : callable Tryz.prog 67 = true := by kernel_rfl
@[go_sem] theorem y289 : callable Tryz.prog 68 = true := by kernel_rfl
@[go_sem] theorem y290 : callable Tryz.prog 69 = true := by kernel_rfl
@[go_sem] theorem y291 : callable Tryz.prog 70 = true := by kernel_rfl
@[go_sem] theorem y292 : isSliceT Tryz.prog 116 = true := by kernel_rfl
@[go_sem] theorem y293 : isStrT Tryz.prog 116 = false := by kernel_rfl
@[go_sem] theorem y294 : esz Tryz.prog 116 = some 3 := by kernel_rfl
@[go_sem] theorem y295 : arr Tryz.prog 116 = none := by kernel_rfl
@[go_sem] theorem y296 : fieldOff Tryz.prog 119 0 = some 0 := by kernel_rfl
@[go_sem] theorem y297 : callable Tryz.prog 71 = true := by kernel_rfl
@[go_sem] theorem y298 : callable Tryz.prog 72 = true := by kernel_rfl
@[go_sem] theorem y299 : callable Tryz.prog 73 = true := by kernel_rfl
@[go_sem] theorem y300 : callable Tryz.prog 74 = true := by kernel_rfl
@[go_sem] theorem y301 : callable Tryz.prog 75 = true := by kernel_rfl
@[go_sem] theorem y302 : ikind Tryz.prog 38 = some IntKind.u32 := by kernel_rfl
@[go_sem] theorem y303 : isStrT Tryz.prog 38 = false := by kernel_rfl
@[go_sem] theorem y304 : zcells Tryz.prog 126 = some [AVal.lit (Value.int IntKind.u64 0), AVal.lit (Value.int IntKind.u32 0), AVal.lit (Value.int IntKind.u32 0)] := by kernel_rfl
@[go_sem] theorem y305 : placesOf Tryz.prog 126 = some { toList := [(0, 1), (1, 1), (2, 1)] } := by kernel_rfl
@[go_sem] theorem y306 : isStructT Tryz.prog 126 = true := by kernel_rfl
@[go_sem] theorem y307 : arrE Tryz.prog 126 = none := by kernel_rfl
@[go_sem] theorem y308 : callable Tryz.prog 76 = true := by kernel_rfl
@[go_sem] theorem y309 : arr Tryz.prog 26 = none := by kernel_rfl
@[go_sem] theorem y310 : ikind Tryz.prog 129 = some IntKind.u64 := by kernel_rfl
@[go_sem] theorem y311 : isStrT Tryz.prog 129 = false := by kernel_rfl
@[go_sem] theorem y312 : callable Tryz.prog 78 = true := by kernel_rfl
@[go_sem] theorem y313 : callable Tryz.prog 77 = true := by kernel_rfl
@[go_sem] theorem y314 : callable Tryz.prog 79 = true := by kernel_rfl
@[go_sem] theorem y315 : callable Tryz.prog 80 = true := by kernel_rfl
@[go_sem] theorem y316 : callable Tryz.prog 81 = true := by kernel_rfl
@[go_sem] theorem y317 : callable Tryz.prog 82 = true := by kernel_rfl
@[go_sem] theorem y318 : ikind Tryz.prog 134 = none := by kernel_rfl
@[go_sem] theorem y319 : isStrT Tryz.prog 134 = false := by kernel_rfl
@[go_sem] theorem y320 : isSliceT Tryz.prog 134 = true := by kernel_rfl
@[go_sem] theorem y321 : esz Tryz.prog 134 = some 1 := by kernel_rfl
@[go_sem] theorem y322 : arr Tryz.prog 134 = none := by kernel_rfl
@[go_sem] theorem y323 : callable Tryz.prog 83 = true := by kernel_rfl
@[go_sem] theorem y324 : callable Tryz.prog 84 = true := by kernel_rfl
@[go_sem] theorem y325 : callable Tryz.prog 85 = true := by kernel_rfl
@[go_sem] theorem y326 : callable Tryz.prog 86 = true := by kernel_rfl
@[go_sem] theorem y327 : callable Tryz.prog 87 = true := by kernel_rfl
@[go_sem] theorem y328 : callable Tryz.prog 88 = true := by kernel_rfl
@[go_sem] theorem y329 : zcells Tryz.prog 142 = some [AVal.lit (Value.int IntKind.u64 0), AVal.lit (Value.int IntKind.u32 0), AVal.lit (Value.int IntKind.u32 0)] := by kernel_rfl
@[go_sem] theorem y330 : placesOf Tryz.prog 142 = some { toList := [(0, 1), (1, 1), (2, 1)] } := by kernel_rfl
@[go_sem] theorem y331 : isStructT Tryz.prog 142 = true := by kernel_rfl
@[go_sem] theorem y332 : arrE Tryz.prog 142 = none := by kernel_rfl
@[go_sem] theorem y333 : callable Tryz.prog 89 = true := by kernel_rfl
@[go_sem] theorem y334 : zcells Tryz.prog 119 = some [AVal.lit (Value.int IntKind.u64 0), AVal.lit (Value.int IntKind.i64 0), AVal.lit (Value.int IntKind.i64 0)] := by kernel_rfl
@[go_sem] theorem y335 : placesOf Tryz.prog 119 = some { toList := [(0, 1), (1, 1), (2, 1)] } := by kernel_rfl
@[go_sem] theorem y336 : isStructT Tryz.prog 119 = true := by kernel_rfl
@[go_sem] theorem y337 : arrE Tryz.prog 119 = none := by kernel_rfl
@[go_sem] theorem y338 : ezero Tryz.prog 116 = some (3, 24, [AVal.lit (Value.int IntKind.u64 0), AVal.lit (Value.int IntKind.i64 0), AVal.lit (Value.int IntKind.i64 0)]) := by kernel_rfl
@[go_sem] theorem ap_116 {H0 : Heap} {k id : Nat} {l : List (List AVal)} {y : Option AVal} (hin : accIn H0 id 3 l) (hid : id < k) : aAppend Tryz.prog (AM.look H0) k 116 (some (accV id l)) y = appR 3 24 k id l (y.bind (aSrc (AM.look H0))) := app_acc y338 hin hid
@[go_sem] theorem ln_116 {H0 : Heap} {k id : Nat} {l : List (List AVal)} (hin : accIn H0 id 3 l) : lenO Tryz.prog (AM.look H0) k 116 (some (accV id l)) = some ⟨.lit (.int .i64 (l.length : Int)), k, [], accRds id l⟩ := len_acc (by kernel_rfl) hin
@[go_sem] theorem y339 : callable Tryz.prog 90 = true := by kernel_rfl
@[go_sem] theorem y340 : tagOf Tryz.prog 40 = none := by kernel_rfl
@[go_sem] theorem y341 : eqOffs Tryz.prog 40 = some [(0, 0), (1, 0), (2, 0), (3, 0), (4, 0), (5, 1), (6, 0), (7, 0)] := by kernel_rfl
@[go_sem] theorem y342 : refT Tryz.prog 40 = none := by kernel_rfl
@[go_sem] theorem y343 : tagOf Tryz.prog 42 = none := by kernel_rfl
@[go_sem] theorem y344 : eqOffs Tryz.prog 42 = some [(0, 0), (1, 0), (2, 0)] := by kernel_rfl
@[go_sem] theorem y345 : refT Tryz.prog 42 = none := by kernel_rfl
@[go_sem] theorem y346 : tagOf Tryz.prog 37 = none := by kernel_rfl
@[go_sem] theorem y347 : eqOffs Tryz.prog 37 = some [(0, 0), (1, 0)] := by kernel_rfl
@[go_sem] theorem y348 : refT Tryz.prog 37 = none := by kernel_rfl
@[go_sem] theorem y349 : callable Tryz.prog 91 = true := by kernel_rfl
@[go_sem] theorem y350 : callable Tryz.prog 92 = true := by kernel_rfl
@[go_sem] theorem y351 : arr Tryz.prog 126 = none := by kernel_rfl
@[go_sem] theorem y352 : fieldOff Tryz.prog 126 2 = some 2 := by kernel_rfl
@[go_sem] theorem y353 : callable Tryz.prog 93 = true := by kernel_rfl
@[go_sem] theorem y354 : fieldOff Tryz.prog 126 1 = some 1 := by kernel_rfl
@[go_sem] theorem y355 : fieldOff Tryz.prog 126 0 = some 0 := by kernel_rfl
@[go_sem] theorem y356 : callable Tryz.prog 94 = true := by kernel_rfl
@[go_sem] theorem y357 : callable Tryz.prog 95 = true := by kernel_rfl
@[go_sem] theorem y358 : callable Tryz.prog 96 = true := by kernel_rfl
@[go_sem] theorem y359 : callable Tryz.prog 97 = true := by kernel_rfl
@[go_sem] theorem y360 : tagOf Tryz.prog 144 = some 0 := by kernel_rfl
@[go_sem] theorem y361 : eqOffs Tryz.prog 144 = none := by kernel_rfl
@[go_sem] theorem y362 : refT Tryz.prog 144 = none := by kernel_rfl
@[go_sem] theorem y363 : callable Tryz.prog 98 = true := by kernel_rfl
@[go_sem] theorem y364 : callable Tryz.prog 99 = true := by kernel_rfl
@[go_sem] theorem y365 : callable Tryz.prog 100 = true := by kernel_rfl
@[go_sem] theorem y366 : callable Tryz.prog 101 = true := by kernel_rfl
@[go_sem] theorem y367 : callable Tryz.prog 102 = true := by kernel_rfl
@[go_sem] theorem y368 : callable Tryz.prog 103 = true := by kernel_rfl
@[go_sem] theorem y369 : callable Tryz.prog 104 = true := by kernel_rfl
@[go_sem] theorem y370 : zcells Tryz.prog 153 = some [AVal.lit (Value.int IntKind.u8 0), AVal.lit (Value.int IntKind.u8 0), AVal.lit (Value.int IntKind.u8 0), AVal.lit (Value.int IntKind.u8 0), AVal.lit (Value.int IntKind.u8 0), AVal.lit (Value.int IntKind.u8 0), AVal.lit (Value.int IntKind.u8 0), AVal.lit (Value.int IntKind.u8 0), AVal.lit (Value.int IntKind.u8 0), AVal.lit (Value.int IntKind.u8 0), AVal.lit (Value.int IntKind.u8 0), AVal.lit (Value.int IntKind.u8 0), AVal.lit (Value.int IntKind.u8 0), AVal.lit (Value.int IntKind.u8 0), AVal.lit (Value.int IntKind.u8 0), AVal.lit (Value.int IntKind.u8 0), AVal.lit (Value.int IntKind.u8 0), AVal.lit (Value.int IntKind.u8 0), AVal.lit (Value.int IntKind.u8 0), AVal.lit (Value.int IntKind.u8 0), AVal.lit (Value.int IntKind.u8 0), AVal.lit (Value.int IntKind.u8 0), AVal.lit (Value.int IntKind.u8 0), AVal.lit (Value.int IntKind.u8 0)] := by kernel_rfl
@[go_sem] theorem y371 : arr Tryz.prog 153 = some (24, 1) := by kernel_rfl
@[go_sem] theorem y372 : ikind Tryz.prog 2 = some IntKind.i64 := by kernel_rfl
@[go_sem] theorem y373 : ikind Tryz.prog 26 = some IntKind.u64 := by kernel_rfl
@[go_sem] theorem y374 : isStrT Tryz.prog 26 = false := by kernel_rfl
@[go_sem] theorem y375 : callable Tryz.prog 105 = true := by kernel_rfl
@[go_sem] theorem y376 : esz Tryz.prog 153 = none := by kernel_rfl
@[go_sem] theorem y377 : isStrT Tryz.prog 153 = false := by kernel_rfl
@[go_sem] theorem y378 : callable Tryz.prog 106 = true := by kernel_rfl
@[go_sem] theorem y379 : callable Tryz.prog 107 = true := by kernel_rfl
@[go_sem] theorem y380 : callable Tryz.prog 108 = true := by kernel_rfl
@[go_sem] theorem y381 : callable Tryz.prog 109 = true := by kernel_rfl
@[go_sem] theorem y382 : callable Tryz.prog 110 = false := by kernel_rfl
@[go_sem] theorem y383 : callable Tryz.prog 111 = true := by kernel_rfl
@[go_sem] theorem y384 : callable Tryz.prog 112 = true := by kernel_rfl
@[go_sem] theorem y385 : isStrT Tryz.prog 2 = false := by kernel_rfl
@[go_sem] theorem y386 : callable Tryz.prog 113 = true := by kernel_rfl
@[go_sem] theorem y387 : tagg Tryz.prog 87 = some false := by kernel_rfl
@[go_sem] theorem y388 : tsz Tryz.prog 87 = some 1 := by kernel_rfl
@[go_sem] theorem y389 : zcells Tryz.prog 165 = some [AVal.lit (Value.string { data := { toList := [] } }), AVal.lit (Value.string { data := { toList := [] } }), AVal.lit Value.nilIface] := by kernel_rfl
@[go_sem] theorem y390 : placesOf Tryz.prog 165 = some { toList := [(0, 1), (1, 1), (2, 1)] } := by kernel_rfl
@[go_sem] theorem y391 : isStructT Tryz.prog 165 = true := by kernel_rfl
@[go_sem] theorem y392 : arrE Tryz.prog 165 = none := by kernel_rfl
@[go_sem] theorem y393 : arr Tryz.prog 165 = none := by kernel_rfl
@[go_sem] theorem y394 : callable Tryz.prog 114 = true := by kernel_rfl
@[go_sem] theorem y395 : arr Tryz.prog 142 = none := by kernel_rfl
@[go_sem] theorem y396 : fieldOff Tryz.prog 142 2 = some 2 := by kernel_rfl
@[go_sem] theorem y397 : fieldOff Tryz.prog 142 1 = some 1 := by kernel_rfl
@[go_sem] theorem y398 : fieldOff Tryz.prog 142 0 = some 0 := by kernel_rfl
@[go_sem] theorem y399 : callable Tryz.prog 115 = true := by kernel_rfl
@[go_sem] theorem y400 : callable Tryz.prog 116 = true := by kernel_rfl
@[go_sem] theorem y401 : ikind Tryz.prog 170 = some IntKind.u64 := by kernel_rfl
@[go_sem] theorem y402 : isStrT Tryz.prog 170 = false := by kernel_rfl
@[go_sem] theorem y403 : zcells Tryz.prog 170 = some [AVal.lit (Value.int IntKind.u64 0)] := by kernel_rfl
@[go_sem] theorem y404 : arr Tryz.prog 170 = none := by kernel_rfl
@[go_sem] theorem y405 : tsz Tryz.prog 170 = some 1 := by kernel_rfl
@[go_sem] theorem y406 : callable Tryz.prog 117 = true := by kernel_rfl
@[go_sem] theorem y407 : callable Tryz.prog 118 = true := by kernel_rfl
@[go_sem] theorem y408 : callable Tryz.prog 119 = true := by kernel_rfl
@[go_sem] theorem y409 : callable Tryz.prog 120 = true := by kernel_rfl
@[go_sem] theorem y410 : callable Tryz.prog 121 = true := by kernel_rfl
@[go_sem] theorem y411 : esz Tryz.prog 178 = none := by kernel_rfl
@[go_sem] theorem y412 : arr Tryz.prog 178 = some (20, 1) := by kernel_rfl
@[go_sem] theorem y413 : callable Tryz.prog 122 = true := by kernel_rfl
@[go_sem] theorem y414 : zcells Tryz.prog 179 = some [AVal.lit (Value.int IntKind.u8 0), AVal.lit (Value.int IntKind.u8 0), AVal.lit (Value.int IntKind.u8 0), AVal.lit (Value.int IntKind.u8 0), AVal.lit (Value.int IntKind.u8 0), AVal.lit (Value.int IntKind.u8 0), AVal.lit (Value.int IntKind.u8 0), AVal.lit (Value.int IntKind.u8 0), AVal.lit (Value.int IntKind.u8 0), AVal.lit (Value.int IntKind.u8 0), AVal.lit (Value.int IntKind.u8 0), AVal.lit (Value.int IntKind.u8 0), AVal.lit (Value.int IntKind.u8 0), AVal.lit (Value.int IntKind.u8 0), AVal.lit (Value.int IntKind.u8 0), AVal.lit (Value.int IntKind.u8 0), AVal.lit (Value.int IntKind.u8 0), AVal.lit (Value.int IntKind.u8 0), AVal.lit (Value.int IntKind.u8 0), AVal.lit (Value.int IntKind.u8 0), AVal.lit (Value.int IntKind.u8 0), AVal.lit (Value.int IntKind.u8 0), AVal.lit (Value.int IntKind.u8 0), AVal.lit (Value.int IntKind.u8 0), AVal.lit (Value.int IntKind.u8 0), AVal.lit (Value.int IntKind.u8 0), AVal.lit (Value.int IntKind.u8 0), AVal.lit (Value.int IntKind.u8 0), AVal.lit (Value.int IntKind.u8 0), AVal.lit (Value.int IntKind.u8 0), AVal.lit (Value.int IntKind.u8 0), AVal.lit (Value.int IntKind.u8 0), AVal.lit (Value.int IntKind.u8 0), AVal.lit (Value.int IntKind.u8 0), AVal.lit (Value.int IntKind.u8 0), AVal.lit (Value.int IntKind.u8 0), AVal.lit (Value.int IntKind.u8 0), AVal.lit (Value.int IntKind.u8 0), AVal.lit (Value.int IntKind.u8 0), AVal.lit (Value.int IntKind.u8 0), AVal.lit (Value.int IntKind.u8 0), AVal.lit (Value.int IntKind.u8 0), AVal.lit (Value.int IntKind.u8 0), AVal.lit (Value.int IntKind.u8 0), AVal.lit (Value.int IntKind.u8 0), AVal.lit (Value.int IntKind.u8 0), AVal.lit (Value.int IntKind.u8 0), AVal.lit (Value.int IntKind.u8 0), AVal.lit (Value.int IntKind.u8 0), AVal.lit (Value.int IntKind.u8 0), AVal.lit (Value.int IntKind.u8 0), AVal.lit (Value.int IntKind.u8 0), AVal.lit (Value.int IntKind.u8 0), AVal.lit (Value.int IntKind.u8 0), AVal.lit (Value.int IntKind.u8 0), AVal.lit (Value.int IntKind.u8 0), AVal.lit (Value.int IntKind.u8 0), AVal.lit (Value.int IntKind.u8 0), AVal.lit (Value.int IntKind.u8 0), AVal.lit (Value.int IntKind.u8 0), AVal.lit (Value.int IntKind.u8 0), AVal.lit (Value.int IntKind.u8 0), AVal.lit (Value.int IntKind.u8 0), AVal.lit (Value.int IntKind.u8 0), AVal.lit (Value.int IntKind.u8 0)] := by kernel_rfl
@[go_sem] theorem y415 : arr Tryz.prog 179 = some (65, 1) := by kernel_rfl
@[go_sem] theorem y416 : callable Tryz.prog 123 = true := by kernel_rfl
@[go_sem] theorem y417 : callable Tryz.prog 124 = true := by kernel_rfl
@[go_sem] theorem y418 : esz Tryz.prog 179 = none := by kernel_rfl
@[go_sem] theorem y419 : isStrT Tryz.prog 179 = false := by kernel_rfl
@[go_sem] theorem y420 : ezero Tryz.prog 134 = some (1, 1, [AVal.lit (Value.int IntKind.u8 0)]) := by kernel_rfl
@[go_sem] theorem ap_134 {H0 : Heap} {k id : Nat} {l : List (List AVal)} {y : Option AVal} (hin : accIn H0 id 1 l) (hid : id < k) : aAppend Tryz.prog (AM.look H0) k 134 (some (accV id l)) y = appR 1 1 k id l (y.bind (aSrc (AM.look H0))) := app_acc y420 hin hid
@[go_sem] theorem ln_134 {H0 : Heap} {k id : Nat} {l : List (List AVal)} (hin : accIn H0 id 1 l) : lenO Tryz.prog (AM.look H0) k 134 (some (accV id l)) = some ⟨.lit (.int .i64 (l.length : Int)), k, [], accRds id l⟩ := len_acc (by kernel_rfl) hin
@[go_sem] theorem y421 : callable Tryz.prog 125 = true := by kernel_rfl
@[go_sem] theorem y422 : callable Tryz.prog 126 = true := by kernel_rfl
@[go_sem] theorem y423 : callable Tryz.prog 127 = false := by kernel_rfl
@[go_sem] theorem y424 : callable Tryz.prog 128 = true := by kernel_rfl
@[go_sem] theorem y425 : callable Tryz.prog 129 = true := by kernel_rfl
@[go_sem] theorem y426 : callable Tryz.prog 130 = true := by kernel_rfl
@[go_sem] theorem y427 : callable Tryz.prog 131 = true := by kernel_rfl
@[go_sem] theorem y428 : zcells Tryz.prog 185 = some [AVal.lit (Value.string { data := { toList := [] } })] := by kernel_rfl
@[go_sem] theorem y429 : placesOf Tryz.prog 185 = some { toList := [(0, 1)] } := by kernel_rfl
@[go_sem] theorem y430 : isStructT Tryz.prog 185 = true := by kernel_rfl
@[go_sem] theorem y431 : arrE Tryz.prog 185 = none := by kernel_rfl
@[go_sem] theorem y432 : arr Tryz.prog 185 = none := by kernel_rfl
@[go_sem] theorem y433 : callable Tryz.prog 132 = true := by kernel_rfl
@[go_sem] theorem y434 : tagg Tryz.prog 170 = some false := by kernel_rfl
@[go_sem] theorem y435 : callable Tryz.prog 133 = true := by kernel_rfl
@[go_sem] theorem y436 : callable Tryz.prog 134 = true := by kernel_rfl
@[go_sem] theorem y437 : callable Tryz.prog 135 = true := by kernel_rfl
@[go_sem] theorem y438 : esz Tryz.prog 188 = none := by kernel_rfl
@[go_sem] theorem y439 : arr Tryz.prog 188 = some (256, 1) := by kernel_rfl
@[go_sem] theorem y440 : esz Tryz.prog 191 = none := by kernel_rfl
@[go_sem] theorem y441 : arr Tryz.prog 191 = some (16, 2) := by kernel_rfl
@[go_sem] theorem y442 : tagg Tryz.prog 190 = some true := by kernel_rfl
@[go_sem] theorem y443 : tsz Tryz.prog 190 = some 2 := by kernel_rfl
@[go_sem] theorem y444 : zcells Tryz.prog 190 = some [AVal.lit (Value.int IntKind.u8 0), AVal.lit (Value.int IntKind.u8 0)] := by kernel_rfl
@[go_sem] theorem y445 : arr Tryz.prog 190 = none := by kernel_rfl
@[go_sem] theorem y446 : fieldOff Tryz.prog 190 0 = some 0 := by kernel_rfl
@[go_sem] theorem y447 : fieldOff Tryz.prog 190 1 = some 1 := by kernel_rfl
@[go_sem] theorem y448 : callable Tryz.prog 136 = false := by kernel_rfl
@[go_sem] theorem y449 : callable Tryz.prog 137 = true := by kernel_rfl
@[go_sem] theorem y450 : tagOf Tryz.prog 21 = some 0 := by kernel_rfl
@[go_sem] theorem y451 : eqOffs Tryz.prog 21 = none := by kernel_rfl
@[go_sem] theorem y452 : refT Tryz.prog 21 = none := by kernel_rfl
@[go_sem] theorem y453 : esz Tryz.prog 194 = none := by kernel_rfl
@[go_sem] theorem y454 : arr Tryz.prog 194 = some (32, 1) := by kernel_rfl
@[go_sem] theorem y455 : esz Tryz.prog 195 = none := by kernel_rfl
@[go_sem] theorem y456 : arr Tryz.prog 195 = some (64, 1) := by kernel_rfl
@[go_sem] theorem y457 : zcells Tryz.prog 194 = some [AVal.lit (Value.int IntKind.u8 0), AVal.lit (Value.int IntKind.u8 0), AVal.lit (Value.int IntKind.u8 0), AVal.lit (Value.int IntKind.u8 0), AVal.lit (Value.int IntKind.u8 0), AVal.lit (Value.int IntKind.u8 0), AVal.lit (Value.int IntKind.u8 0), AVal.lit (Value.int IntKind.u8 0), AVal.lit (Value.int IntKind.u8 0), AVal.lit (Value.int IntKind.u8 0), AVal.lit (Value.int IntKind.u8 0), AVal.lit (Value.int IntKind.u8 0), AVal.lit (Value.int IntKind.u8 0), AVal.lit (Value.int IntKind.u8 0), AVal.lit (Value.int IntKind.u8 0), AVal.lit (Value.int IntKind.u8 0), AVal.lit (Value.int IntKind.u8 0), AVal.lit (Value.int IntKind.u8 0), AVal.lit (Value.int IntKind.u8 0), AVal.lit (Value.int IntKind.u8 0), AVal.lit (Value.int IntKind.u8 0), AVal.lit (Value.int IntKind.u8 0), AVal.lit (Value.int IntKind.u8 0), AVal.lit (Value.int IntKind.u8 0), AVal.lit (Value.int IntKind.u8 0), AVal.lit (Value.int IntKind.u8 0), AVal.lit (Value.int IntKind.u8 0), AVal.lit (Value.int IntKind.u8 0), AVal.lit (Value.int IntKind.u8 0), AVal.lit (Value.int IntKind.u8 0), AVal.lit (Value.int IntKind.u8 0), AVal.lit (Value.int IntKind.u8 0)] := by kernel_rfl
@[go_sem] theorem y458 : placesOf Tryz.prog 194 = some { toList := [(0, 1), (1, 1), (2, 1), (3, 1), (4, 1), (5, 1), (6, 1), (7, 1), (8, 1), (9, 1), (10, 1), (11, 1), (12, 1), (13, 1), (14, 1), (15, 1), (16, 1), (17, 1), (18, 1), (19, 1), (20, 1), (21, 1), (22, 1), (23, 1), (24, 1), (25, 1), (26, 1), (27, 1), (28, 1), (29, 1), (30, 1), (31, 1)] } := by kernel_rfl
@[go_sem] theorem y459 : isStructT Tryz.prog 194 = false := by kernel_rfl
@[go_sem] theorem y460 : arrE Tryz.prog 194 = some (32, 1, false) := by kernel_rfl
@[go_sem] theorem y461 : tsz Tryz.prog 194 = some 32 := by kernel_rfl
@[go_sem] theorem y462 : zcells Tryz.prog 195 = some [AVal.lit (Value.int IntKind.u8 0), AVal.lit (Value.int IntKind.u8 0), AVal.lit (Value.int IntKind.u8 0), AVal.lit (Value.int IntKind.u8 0), AVal.lit (Value.int IntKind.u8 0), AVal.lit (Value.int IntKind.u8 0), AVal.lit (Value.int IntKind.u8 0), AVal.lit (Value.int IntKind.u8 0), AVal.lit (Value.int IntKind.u8 0), AVal.lit (Value.int IntKind.u8 0), AVal.lit (Value.int IntKind.u8 0), AVal.lit (Value.int IntKind.u8 0), AVal.lit (Value.int IntKind.u8 0), AVal.lit (Value.int IntKind.u8 0), AVal.lit (Value.int IntKind.u8 0), AVal.lit (Value.int IntKind.u8 0), AVal.lit (Value.int IntKind.u8 0), AVal.lit (Value.int IntKind.u8 0), AVal.lit (Value.int IntKind.u8 0), AVal.lit (Value.int IntKind.u8 0), AVal.lit (Value.int IntKind.u8 0), AVal.lit (Value.int IntKind.u8 0), AVal.lit (Value.int IntKind.u8 0), AVal.lit (Value.int IntKind.u8 0), AVal.lit (Value.int IntKind.u8 0), AVal.lit (Value.int IntKind.u8 0), AVal.lit (Value.int IntKind.u8 0), AVal.lit (Value.int IntKind.u8 0), AVal.lit (Value.int IntKind.u8 0), AVal.lit (Value.int IntKind.u8 0), AVal.lit (Value.int IntKind.u8 0), AVal.lit (Value.int IntKind.u8 0), AVal.lit (Value.int IntKind.u8 0), AVal.lit (Value.int IntKind.u8 0), AVal.lit (Value.int IntKind.u8 0), AVal.lit (Value.int IntKind.u8 0), AVal.lit (Value.int IntKind.u8 0), AVal.lit (Value.int IntKind.u8 0), AVal.lit (Value.int IntKind.u8 0), AVal.lit (Value.int IntKind.u8 0), AVal.lit (Value.int IntKind.u8 0), AVal.lit (Value.int IntKind.u8 0), AVal.lit (Value.int IntKind.u8 0), AVal.lit (Value.int IntKind.u8 0), AVal.lit (Value.int IntKind.u8 0), AVal.lit (Value.int IntKind.u8 0), AVal.lit (Value.int IntKind.u8 0), AVal.lit (Value.int IntKind.u8 0), AVal.lit (Value.int IntKind.u8 0), AVal.lit (Value.int IntKind.u8 0), AVal.lit (Value.int IntKind.u8 0), AVal.lit (Value.int IntKind.u8 0), AVal.lit (Value.int IntKind.u8 0), AVal.lit (Value.int IntKind.u8 0), AVal.lit (Value.int IntKind.u8 0), AVal.lit (Value.int IntKind.u8 0), AVal.lit (Value.int IntKind.u8 0), AVal.lit (Value.int IntKind.u8 0), AVal.lit (Value.int IntKind.u8 0), AVal.lit (Value.int IntKind.u8 0), AVal.lit (Value.int IntKind.u8 0), AVal.lit (Value.int IntKind.u8 0), AVal.lit (Value.int IntKind.u8 0), AVal.lit (Value.int IntKind.u8 0)] := by kernel_rfl
@[go_sem] theorem y463 : placesOf Tryz.prog 195 = some { toList := [(0, 1), (1, 1), (2, 1), (3, 1), (4, 1), (5, 1), (6, 1), (7, 1), (8, 1), (9, 1), (10, 1), (11, 1), (12, 1), (13, 1), (14, 1), (15, 1), (16, 1), (17, 1), (18, 1), (19, 1), (20, 1), (21, 1), (22, 1), (23, 1), (24, 1), (25, 1), (26, 1), (27, 1), (28, 1), (29, 1), (30, 1), (31, 1), (32, 1), (33, 1), (34, 1), (35, 1), (36, 1), (37, 1), (38, 1), (39, 1), (40, 1), (41, 1), (42, 1), (43, 1), (44, 1), (45, 1), (46, 1), (47, 1), (48, 1), (49, 1), (50, 1), (51, 1), (52, 1), (53, 1), (54, 1), (55, 1), (56, 1), (57, 1), (58, 1), (59, 1), (60, 1), (61, 1), (62, 1), (63, 1)] } := by kernel_rfl
@[go_sem] theorem y464 : isStructT Tryz.prog 195 = false := by kernel_rfl
@[go_sem] theorem y465 : arrE Tryz.prog 195 = some (64, 1, false) := by kernel_rfl
@[go_sem] theorem y466 : tsz Tryz.prog 195 = some 64 := by kernel_rfl
@[go_sem] theorem y467 : zcells Tryz.prog 178 = some [AVal.lit (Value.int IntKind.u64 0), AVal.lit (Value.int IntKind.u64 0), AVal.lit (Value.int IntKind.u64 0), AVal.lit (Value.int IntKind.u64 0), AVal.lit (Value.int IntKind.u64 0), AVal.lit (Value.int IntKind.u64 0), AVal.lit (Value.int IntKind.u64 0), AVal.lit (Value.int IntKind.u64 0), AVal.lit (Value.int IntKind.u64 0), AVal.lit (Value.int IntKind.u64 0), AVal.lit (Value.int IntKind.u64 0), AVal.lit (Value.int IntKind.u64 0), AVal.lit (Value.int IntKind.u64 0), AVal.lit (Value.int IntKind.u64 0), AVal.lit (Value.int IntKind.u64 0), AVal.lit (Value.int IntKind.u64 0), AVal.lit (Value.int IntKind.u64 0), AVal.lit (Value.int IntKind.u64 0), AVal.lit (Value.int IntKind.u64 0), AVal.lit (Value.int IntKind.u64 0)] := by kernel_rfl
@[go_sem] theorem y468 : placesOf Tryz.prog 178 = some { toList := [(0, 1), (1, 1), (2, 1), (3, 1), (4, 1), (5, 1), (6, 1), (7, 1), (8, 1), (9, 1), (10, 1), (11, 1), (12, 1), (13, 1), (14, 1), (15, 1), (16, 1), (17, 1), (18, 1), (19, 1)] } := by kernel_rfl
@[go_sem] theorem y469 : isStructT Tryz.prog 178 = false := by kernel_rfl
@[go_sem] theorem y470 : arrE Tryz.prog 178 = some (20, 1, false) := by kernel_rfl
@[go_sem] theorem y471 : tsz Tryz.prog 178 = some 20 := by kernel_rfl
@[go_sem] theorem y472 : placesOf Tryz.prog 190 = some { toList := [(0, 1), (1, 1)] } := by kernel_rfl
@[go_sem] theorem y473 : isStructT Tryz.prog 190 = true := by kernel_rfl
@[go_sem] theorem y474 : arrE Tryz.prog 190 = none := by kernel_rfl
@[go_sem] theorem y475 : zcells Tryz.prog 191 = some [AVal.lit (Value.int IntKind.u8 0), AVal.lit (Value.int IntKind.u8 0), AVal.lit (Value.int IntKind.u8 0), AVal.lit (Value.int IntKind.u8 0), AVal.lit (Value.int IntKind.u8 0), AVal.lit (Value.int IntKind.u8 0), AVal.lit (Value.int IntKind.u8 0), AVal.lit (Value.int IntKind.u8 0), AVal.lit (Value.int IntKind.u8 0), AVal.lit (Value.int IntKind.u8 0), AVal.lit (Value.int IntKind.u8 0), AVal.lit (Value.int IntKind.u8 0), AVal.lit (Value.int IntKind.u8 0), AVal.lit (Value.int IntKind.u8 0), AVal.lit (Value.int IntKind.u8 0), AVal.lit (Value.int IntKind.u8 0), AVal.lit (Value.int IntKind.u8 0), AVal.lit (Value.int IntKind.u8 0), AVal.lit (Value.int IntKind.u8 0), AVal.lit (Value.int IntKind.u8 0), AVal.lit (Value.int IntKind.u8 0), AVal.lit (Value.int IntKind.u8 0), AVal.lit (Value.int IntKind.u8 0), AVal.lit (Value.int IntKind.u8 0), AVal.lit (Value.int IntKind.u8 0), AVal.lit (Value.int IntKind.u8 0), AVal.lit (Value.int IntKind.u8 0), AVal.lit (Value.int IntKind.u8 0), AVal.lit (Value.int IntKind.u8 0), AVal.lit (Value.int IntKind.u8 0), AVal.lit (Value.int IntKind.u8 0), AVal.lit (Value.int IntKind.u8 0)] := by kernel_rfl
@[go_sem] theorem y476 : placesOf Tryz.prog 191 = some { toList := [(0, 2), (2, 2), (4, 2), (6, 2), (8, 2), (10, 2), (12, 2), (14, 2), (16, 2), (18, 2), (20, 2), (22, 2), (24, 2), (26, 2), (28, 2), (30, 2)] } := by kernel_rfl
@[go_sem] theorem y477 : isStructT Tryz.prog 191 = false := by kernel_rfl
@[go_sem] theorem y478 : arrE Tryz.prog 191 = some (16, 2, true) := by kernel_rfl
@[go_sem] theorem y479 : tsz Tryz.prog 191 = some 32 := by kernel_rfl
@[go_sem] theorem res_7 : Tryz.f7.results.toList = [.cell 2 34] := by kernel_rfl
@[go_sem] theorem res_8 : Tryz.f8.results.toList = [.cell 4 34] := by kernel_rfl
@[go_sem] theorem res_15 : Tryz.f15.results.toList = [.cell 2 23, .tmp 3] := by kernel_rfl
@[go_sem] theorem res_16 : Tryz.f16.results.toList = [.cell 2 56, .tmp 3] := by kernel_rfl
@[go_sem] theorem res_20 : Tryz.f20.results.toList = [.cell 0 34] := by kernel_rfl
@[go_sem] theorem res_22 : Tryz.f22.results.toList = [.cell 2 34] := by kernel_rfl
@[go_sem] theorem res_23 : Tryz.f23.results.toList = [.cell 2 34] := by kernel_rfl
@[go_sem] theorem res_44 : Tryz.f44.results.toList = [.cell 2 29] := by kernel_rfl
end Go.AM
end

section
set_option linter.unusedVariables false
set_option linter.unusedSimpArgs false
namespace Go.Proofs.T
open Go Go.AM Go.Proofs
set_option linter.unusedSimpArgs false
set_option linter.unusedVariables false
variable {Γ : List (Nat × List AVal)}
theorem weight_ref (w : Int) : Pure Tryz.prog Γ 65 [.lit (.int .i64 w)] (.lit (.bool (decide (1 ≤ w ∧ w ≤ 65536)))) := by
  refine Pure_at Tryz.func65 rfl 9 rfl (Nat.le_of_ble_eq_true rfl) rfl fun k => ?_
  refine C_seq rfl ?_
  refine S_reg rfl [0,2] [] rfl (fun K hK => ?_); simp -dsimp -implicitDefEqProofs only [go_sem, eq_self, ↓reduceIte]; (refine hK _ _ _ _ (fun hx => ?_)); clear hx hK; simp -dsimp -implicitDefEqProofs only [go_sem, eq_self, ↓reduceIte]
  refine C_seq rfl ?_
  refine S_reg rfl [0,2] [] rfl (fun K hK => ?_); simp -dsimp -implicitDefEqProofs only [go_sem, eq_self, ↓reduceIte]; (repeat' (refine gs_both (fun hg => ?_) (fun hg => ?_) <;> simp only [decide_eq_true_eq, decide_eq_false_iff_not, Bool.not_eq_true', Bool.not_eq_false'] at hg <;> simp -dsimp -implicitDefEqProofs only [go_sem, hg, eq_self, ↓reduceIte])); all_goals ((refine hK _ _ _ _ (fun hx => ?_)); clear hx hK; simp -dsimp -implicitDefEqProofs only [go_sem, eq_self, ↓reduceIte])
  all_goals (refine C_ret rfl ⟨_, rfl, VLe.of_eq ?_⟩)
  all_goals ((simp only [AVal.lit.injEq, Value.bool.injEq]; rw [Bool.eq_iff_iff]; simp only [beq_iff_eq, bne_iff_ne, ne_eq, decide_eq_true_eq, decide_eq_false_iff_not, Bool.and_eq_true, Bool.or_eq_true, Bool.not_eq_true', beq_eq_false_iff_ne, Bool.false_eq_true, Bool.true_eq_false, true_iff, false_iff, iff_true, iff_false]; omega))
theorem weighs (w : Int) : Pure Tryz.prog Γ 93 [.lit (.int .i64 w)] (.lit (.bool (decide (1 ≤ w ∧ w ≤ 65536)))) := by
  refine Pure_at Tryz.func93 rfl 9 rfl (Nat.le_of_ble_eq_true rfl) rfl fun k => ?_
  refine C_seq rfl ?_
  refine S_reg rfl [0,2] [] rfl (fun K hK => ?_); simp -dsimp -implicitDefEqProofs only [go_sem, eq_self, ↓reduceIte]; (refine hK _ _ _ _ (fun hx => ?_)); clear hx hK; simp -dsimp -implicitDefEqProofs only [go_sem, eq_self, ↓reduceIte]
  refine C_seq rfl ?_
  refine S_reg rfl [0,2] [] rfl (fun K hK => ?_); simp -dsimp -implicitDefEqProofs only [go_sem, eq_self, ↓reduceIte]; (repeat' (refine gs_both (fun hg => ?_) (fun hg => ?_) <;> simp only [decide_eq_true_eq, decide_eq_false_iff_not, Bool.not_eq_true', Bool.not_eq_false'] at hg <;> simp -dsimp -implicitDefEqProofs only [go_sem, hg, eq_self, ↓reduceIte])); all_goals ((refine hK _ _ _ _ (fun hx => ?_)); clear hx hK; simp -dsimp -implicitDefEqProofs only [go_sem, eq_self, ↓reduceIte])
  all_goals (refine C_ret rfl ⟨_, rfl, VLe.of_eq ?_⟩)
  all_goals ((simp only [AVal.lit.injEq, Value.bool.injEq]; rw [Bool.eq_iff_iff]; simp only [beq_iff_eq, bne_iff_ne, ne_eq, decide_eq_true_eq, decide_eq_false_iff_not, Bool.and_eq_true, Bool.or_eq_true, Bool.not_eq_true', beq_eq_false_iff_ne, Bool.false_eq_true, Bool.true_eq_false, true_iff, false_iff, iff_true, iff_false]; omega))
def ent (v r w : Int) : Bool := decide (1 ≤ w ∧ w ≤ 65536 ∧ r < w ∧ (v < 18446744073709551615 ∨ r = 0))
theorem chargeRight (v r w : Int) (hw : 0 ≤ w) (hw2 : w < 4294967296) : Pure Tryz.prog Γ 76 [.agg [.lit (.int .u64 v), .lit (.int .u32 r), .lit (.int .u32 w)]] (.lit (.bool (ent v r w))) := by
  refine Pure_at Tryz.func76 rfl 24 rfl (Nat.le_of_ble_eq_true rfl) rfl fun k => ?_
  refine C_seq rfl ?_
  refine S_reg rfl [0,1,2] [] rfl (fun K hK => ?_); simp -dsimp -implicitDefEqProofs only [go_sem, eq_self, ↓reduceIte]; (refine hK _ _ _ _ (fun hx => ?_)); clear hx hK; simp -dsimp -implicitDefEqProofs only [go_sem, eq_self, ↓reduceIte]
  refine C_seq rfl ?_
  refine S_reg rfl [0,1,2] [.ret (.lit (.bool (decide (1 ≤ w ∧ w ≤ 65536))))] rfl (fun K hK => ?_)
  simp -dsimp -implicitDefEqProofs only [go_sem, eq_self, ↓reduceIte]
  rw [wrap_i64 (by omega) (by omega)]
  refine ⟨weighs w, ?_⟩
  (repeat' (refine gs_both (fun hg => ?_) (fun hg => ?_) <;> simp only [decide_eq_true_eq, decide_eq_false_iff_not, Bool.not_eq_true', Bool.not_eq_false'] at hg <;> simp -dsimp -implicitDefEqProofs only [go_sem, hg, eq_self, ↓reduceIte]))
  all_goals ((refine hK _ _ _ _ (fun hx => ?_)); clear hx hK; simp -dsimp -implicitDefEqProofs only [go_sem, eq_self, ↓reduceIte])
  all_goals (refine C_ret rfl ⟨_, rfl, VLe.of_eq ?_⟩)
  all_goals (unfold ent; (simp only [AVal.lit.injEq, Value.bool.injEq]; rw [Bool.eq_iff_iff]; simp only [beq_iff_eq, bne_iff_ne, ne_eq, decide_eq_true_eq, decide_eq_false_iff_not, Bool.and_eq_true, Bool.or_eq_true, Bool.not_eq_true', beq_eq_false_iff_ne, Bool.false_eq_true, Bool.true_eq_false, true_iff, false_iff, iff_true, iff_false]; omega))
theorem entity (v r w : Int) : Pure Tryz.prog Γ 57 [.lit (.int .u64 v), .lit (.int .u32 r), .lit (.int .i64 w)] (.lit (.bool (ent v r w))) := by
  refine Pure_at Tryz.func57 rfl 21 rfl (Nat.le_of_ble_eq_true rfl) rfl fun k => ?_
  refine C_seq rfl ?_
  refine S_reg rfl [0,1,2,6] [] rfl (fun K hK => ?_); simp -dsimp -implicitDefEqProofs only [go_sem, eq_self, ↓reduceIte]; (refine hK _ _ _ _ (fun hx => ?_)); clear hx hK; simp -dsimp -implicitDefEqProofs only [go_sem, eq_self, ↓reduceIte]
  refine C_seq rfl ?_
  refine S_reg rfl [6] [.ret (.lit (.bool (ent v r w)))] rfl (fun K hK => ?_); simp -dsimp -implicitDefEqProofs only [go_sem, eq_self, ↓reduceIte]; (repeat' (first | (refine And.intro ?_ ?_) | (refine gs_both (fun hb => ?_) (fun hb => ?_) <;> (have hg := hb; (try simp only [nfb] at hg); simp -dsimp -implicitDefEqProofs only [go_sem, hb, hg, eq_self, ↓reduceIte]; clear hb; (try simp only [nfe] at hg))))); (any_goals ((refine hK _ _ _ _ (fun hx => ?_)); clear hx hK; simp -dsimp -implicitDefEqProofs only [go_sem, eq_self, ↓reduceIte]; (try simp (disch := omega) only [wrap_i64, wrap_u64, wrap_u32, wrap_u8]))); (all_goals (try omega))
  · rw [wrap_u32 (by omega) (by omega)]; exact chargeRight v r w (by omega) (by omega)
  all_goals (refine C_ret rfl ⟨_, rfl, VLe.of_eq ?_⟩)
  · rfl
  all_goals (unfold ent; (simp only [AVal.lit.injEq, Value.bool.injEq]; rw [Bool.eq_iff_iff]; simp only [beq_iff_eq, bne_iff_ne, ne_eq, decide_eq_true_eq, decide_eq_false_iff_not, Bool.and_eq_true, Bool.or_eq_true, Bool.not_eq_true', beq_eq_false_iff_ne, Bool.false_eq_true, Bool.true_eq_false, true_iff, false_iff, iff_true, iff_false]; omega))
theorem refRight (v r w : Int) (hv : v ≤ 18446744073709551615) (hr : 0 ≤ r) : Pure Tryz.prog Γ 89 [.agg [.lit (.int .u64 v), .lit (.int .u32 r), .lit (.int .u32 w)]] (.lit (.bool (ent v r w))) := by
  refine Pure_at Tryz.func89 rfl 29 rfl (Nat.le_of_ble_eq_true rfl) rfl fun k => ?_
  refine C_seq rfl ?_
  refine S_reg rfl [0,1,2] [] rfl (fun K hK => ?_); simp -dsimp -implicitDefEqProofs only [go_sem, eq_self, ↓reduceIte]; (refine hK _ _ _ _ (fun hx => ?_)); clear hx hK; simp -dsimp -implicitDefEqProofs only [go_sem, eq_self, ↓reduceIte]
  refine C_seq rfl ?_
  refine S_reg rfl [2] [] rfl (fun K hK => ?_); simp -dsimp -implicitDefEqProofs only [go_sem, eq_self, ↓reduceIte]; (repeat' (first | (refine And.intro ?_ ?_) | (refine gs_both (fun hb => ?_) (fun hb => ?_) <;> (have hg := hb; (try simp only [nfb] at hg); simp -dsimp -implicitDefEqProofs only [go_sem, hb, hg, eq_self, ↓reduceIte]; clear hb; (try simp only [nfe] at hg))))); (any_goals ((refine hK _ _ _ _ (fun hx => ?_)); clear hx hK; simp -dsimp -implicitDefEqProofs only [go_sem, eq_self, ↓reduceIte]; (try simp (disch := omega) only [wrap_i64, wrap_u64, wrap_u32, wrap_u8]))); (all_goals (try omega))
  all_goals (refine C_ret rfl ⟨_, rfl, VLe.of_eq ?_⟩)
  all_goals (unfold ent; (simp only [AVal.lit.injEq, Value.bool.injEq]; rw [Bool.eq_iff_iff]; simp only [beq_iff_eq, bne_iff_ne, ne_eq, decide_eq_true_eq, decide_eq_false_iff_not, Bool.and_eq_true, Bool.or_eq_true, Bool.not_eq_true', beq_eq_false_iff_ne, Bool.false_eq_true, Bool.true_eq_false, true_iff, false_iff, iff_true, iff_false]; omega))
theorem entity_ref (v r w : Int) (hv : v ≤ 18446744073709551615) (hr : 0 ≤ r) : Pure Tryz.prog Γ 68 [.lit (.int .u64 v), .lit (.int .u32 r), .lit (.int .i64 w)] (.lit (.bool (ent v r w))) := by
  refine Pure_at Tryz.func68 rfl 17 rfl (Nat.le_of_ble_eq_true rfl) rfl fun k => ?_
  refine C_seq rfl ?_
  refine S_reg rfl [0,1,2,6] [] rfl (fun K hK => ?_); simp -dsimp -implicitDefEqProofs only [go_sem, eq_self, ↓reduceIte]; (refine hK _ _ _ _ (fun hx => ?_)); clear hx hK; simp -dsimp -implicitDefEqProofs only [go_sem, eq_self, ↓reduceIte]
  refine C_seq rfl ?_
  refine S_reg rfl [6] [.ret (.lit (.bool (decide (1 ≤ w ∧ w ≤ 65536)))), .ret (.lit (.bool (ent v r w)))] rfl (fun K hK => ?_); simp -dsimp -implicitDefEqProofs only [go_sem, eq_self, ↓reduceIte]; (repeat' (first | (refine And.intro ?_ ?_) | (refine gs_both (fun hb => ?_) (fun hb => ?_) <;> (have hg := hb; (try simp only [nfb] at hg); simp -dsimp -implicitDefEqProofs only [go_sem, hb, hg, eq_self, ↓reduceIte]; clear hb; (try simp only [nfe] at hg))))); (any_goals ((refine hK _ _ _ _ (fun hx => ?_)); clear hx hK; simp -dsimp -implicitDefEqProofs only [go_sem, eq_self, ↓reduceIte]; (try simp (disch := omega) only [wrap_i64, wrap_u64, wrap_u32, wrap_u8]))); (all_goals (try omega))
  · exact weight_ref w
  · rw [wrap_u32 (by omega) (by omega)]; exact refRight v r w hv hr
  all_goals (refine C_ret rfl ⟨_, rfl, VLe.of_eq ?_⟩)
  · rfl
  all_goals (unfold ent; (simp only [AVal.lit.injEq, Value.bool.injEq]; rw [Bool.eq_iff_iff]; simp only [beq_iff_eq, bne_iff_ne, ne_eq, decide_eq_true_eq, decide_eq_false_iff_not, Bool.and_eq_true, Bool.or_eq_true, Bool.not_eq_true', beq_eq_false_iff_ne, Bool.false_eq_true, Bool.true_eq_false, true_iff, false_iff, iff_true, iff_false]; omega))
end Go.Proofs.T
end

section
set_option linter.unusedVariables false
set_option linter.unusedSimpArgs false
namespace Go.Proofs.T
open Go Go.AM Go.Proofs
set_option linter.unusedSimpArgs false
set_option linter.unusedVariables false
variable {Γ : List (Nat × List AVal)}
structure Tk where
  id : Int
  group : Int
  weight : Int
  cpu : Int
  mask : Int
  ready : Bool
  v : Int
  r : Int
structure Sp where
  v : Int
  r : Int
  floor : Int
structure St where
  cpus : Int
  credit : Int
  ng : Nat
  par : Nat → Int
  wt : Nat → Int
  nk : Nat
  clk : Nat → Int
  nu : Nat
  cur : Nat → Int
  nt : Nat
  tsk : Nat → Tk
  ns : Nat
  nsp : Nat → Nat
  sp : Nat → Nat → Sp
structure Flt where
  r : Int
  a : Int
  b : Int
deriving DecidableEq
abbrev i64 (n : Int) : AVal := .lit (.int .i64 n)
abbrev u64 (n : Int) : AVal := .lit (.int .u64 n)
abbrev u32 (n : Int) : AVal := .lit (.int .u32 n)
abbrev bl (b : Bool) : AVal := .lit (.bool b)
def Flt.row (f : Flt) : List AVal := [.lit (.int .u8 f.r), .lit (.int .i64 f.a), .lit (.int .i64 f.b)]
theorem wkF {kb k : Nat} {fr : Fr} {H : Heap} {k1 : Nat} {fr1 : Fr} {H1 : Heap} (hb : kb ≤ k1 := by omega) (hf : leF fr fr1 := by simp -dsimp -implicitDefEqProofs only [go_sem, List.map_append, List.map_cons, List.map_nil, Flt.row, eq_self, ↓reduceIte]) (hH : leH H H1 := by simp -dsimp -implicitDefEqProofs only [go_sem, List.map_append, List.map_cons, List.map_nil, Flt.row, eq_self, ↓reduceIte]) (h : bdF (ltB k1) fr1 = true := by simp -dsimp -implicitDefEqProofs only [go_sem, List.map_append, List.map_cons, List.map_nil, Flt.row, eq_self, ↓reduceIte]) (h' : bdH (ltB k1) H1 = true := by simp -dsimp -implicitDefEqProofs only [go_sem, List.map_append, List.map_cons, List.map_nil, Flt.row, eq_self, ↓reduceIte]) : Mv kb k fr H k1 fr1 H1 :=
  Mv.wk (wk_low hb hf hH h h')
def gf (s : St) (i : Nat) : List AVal := [.lit (.int .i64 (s.par i)), .lit (.int .i64 (s.wt i))]
def kf (s : St) (i : Nat) : List AVal := [.lit (.int .i64 (s.clk i))]
def uf (s : St) (i : Nat) : List AVal := [.lit (.int .i64 (s.cur i))]
def tf (s : St) (i : Nat) : List AVal := [.lit (.int .i64 (s.tsk i).id), .lit (.int .i64 (s.tsk i).group), .lit (.int .i64 (s.tsk i).weight), .lit (.int .i64 (s.tsk i).cpu), .lit (.int .u64 (s.tsk i).mask), .lit (.bool (s.tsk i).ready), .lit (.int .u64 (s.tsk i).v), .lit (.int .u32 (s.tsk i).r)]
def sf (s : St) (g c : Nat) : List AVal := [.lit (.int .u64 (s.sp g c).v), .lit (.int .u32 (s.sp g c).r), .lit (.int .u64 (s.sp g c).floor)]
def ssf (s : St) (g : Nat) : List AVal := [.rd 3 (s.nsp g) (sf s g)]
def St.cells (s : St) : List AVal := [.lit (.int .i64 s.cpus), .lit (.int .u64 s.credit), .rd 2 s.ng (gf s), .rd 1 s.nk (kf s), .rd 1 s.nu (uf s), .rd 8 s.nt (tf s), .rd 1 s.ns (ssf s)]
attribute [go_sem] gf kf uf tf sf ssf St.cells
def flats (f : Nat → List Flt) : Nat → List Flt
  | 0 => []
  | n + 1 => flats f n ++ f n
theorem flats_zero {f : Nat → List Flt} : flats f 0 = [] := rfl
theorem flats_succ {f : Nat → List Flt} {n : Nat} : flats f (n + 1) = flats f n ++ f n := rfl
theorem flats_len {f : Nat → List Flt} {m : Nat} (h : ∀ i, (f i).length ≤ m) : ∀ n, (flats f n).length ≤ n * m
  | 0 => by simp [flats]
  | n + 1 => by have := flats_len h n; have := h n; simp only [flats, List.length_append, Nat.add_mul, Nat.one_mul]; omega
def shapeAt (s : St) (g : Nat) : List Flt := if (s.nsp g : Int) = s.cpus then [] else [⟨2, 3, g⟩]
theorem shapeAt_len (s : St) (g : Nat) : (shapeAt s g).length ≤ 1 := by unfold shapeAt; split <;> simp
def shapesL (s : St) : List Flt :=
  (if (s.nk : Int) ≠ s.cpus then [⟨2, 0, 0⟩] else []) ++ (if (s.nu : Int) ≠ s.cpus then [⟨2, 1, 0⟩] else []) ++
    (if s.ns ≠ s.ng then [⟨2, 2, 0⟩] else flats (shapeAt s) s.ns)
set_option maxRecDepth 4000
theorem shapes_ref (s : St) (hn : s.ns ≤ 1000) : Pure Tryz.prog Γ 47 [.agg s.cells] (rows 3 ((shapesL s).map Flt.row)) := by
  refine Pure_at Tryz.func47 rfl 60 rfl (Nat.le_of_ble_eq_true rfl) rfl fun k => ?_
  refine C_seq rfl ?_
  refine S_reg rfl [0,1,2,3,4,5,13,22,34,43,53] [] rfl (fun K hK => ?_); simp -dsimp -implicitDefEqProofs only [go_sem, eq_self, ↓reduceIte]; (refine hK _ _ _ _ (fun hx => ?_)); clear hx hK; simp -dsimp -implicitDefEqProofs only [go_sem, eq_self, ↓reduceIte]
  refine C_seq rfl ?_
  refine S_reg rfl [0,1,2,3,4,5,13,22,34,43,53] [] rfl (fun K hK => ?_); simp -dsimp -implicitDefEqProofs only [go_sem, eq_self, ↓reduceIte]; (refine hK _ _ _ _ (fun hx => ?_)); clear hx hK; simp -dsimp -implicitDefEqProofs only [go_sem, eq_self, ↓reduceIte]
  refine C_seq rfl ?_
  refine S_reg rfl [0,1,2,3,4,5,13,22,34,43,53] [] rfl (fun K hK => ?_); simp -dsimp -implicitDefEqProofs only [go_sem, eq_self, ↓reduceIte]; (refine hK _ _ _ _ (fun hx => ?_)); clear hx hK; simp -dsimp -implicitDefEqProofs only [go_sem, eq_self, ↓reduceIte]
  refine M_mid (X := List Flt) rfl (k + 2) (fun l => [(1, .ptr k 0 0), (2, .lit (.slice none 0 0)), (3, accV (k + 1) (List.map Flt.row (l))), (4, .lit (.int .i64 s.cpus))]) (fun l => accH (k + 1) 3 (List.map Flt.row (l)) [(k, ⟨7, true, [St.cells s]⟩)]) (fun l => l = if (s.nk : Int) ≠ s.cpus then [⟨2, 0, 0⟩] else []) ?_ ?_
  · (repeat (first | (refine C_seq rfl ?_) | (refine C_block rfl ?_) | (refine S_reg rfl [1,2,3,4,13] [] rfl (fun K hK => ?_); simp -dsimp -implicitDefEqProofs only [go_sem, eq_self, ↓reduceIte]; (refine hK _ _ _ _ (fun hx => ?_)); clear hx hK; simp -dsimp -implicitDefEqProofs only [go_sem, eq_self, ↓reduceIte]; clear K) | (refine C_skip rfl ?_; simp -dsimp -implicitDefEqProofs only [go_sem, eq_self, ↓reduceIte])))
    refine C_cond rfl _ rfl (fun ht => ?_) (fun hf => ?_)
    · (repeat (first | (refine C_seq rfl ?_) | (refine C_block rfl ?_) | (refine S_reg rfl [1,2,3,4,13] [] rfl (fun K hK => ?_); simp -dsimp -implicitDefEqProofs only [go_sem, eq_self, ↓reduceIte]; (refine hK _ _ _ _ (fun hx => ?_)); clear hx hK; simp -dsimp -implicitDefEqProofs only [go_sem, eq_self, ↓reduceIte]; clear K) | (refine C_skip rfl ?_; simp -dsimp -implicitDefEqProofs only [go_sem, eq_self, ↓reduceIte])))
      refine ⟨[⟨2, 0, 0⟩], by simpa using ht, ?_⟩
      exact Mv.app (k + 2) (k + 1) ⟨by omega, by omega⟩ ⟨by omega, by omega⟩ (wk_low (by omega) (by simp -dsimp -implicitDefEqProofs only [go_sem, List.map_append, List.map_cons, List.map_nil, Flt.row, eq_self, ↓reduceIte]) (by simp -dsimp -implicitDefEqProofs only [go_sem, List.map_append, List.map_cons, List.map_nil, Flt.row, eq_self, ↓reduceIte]) (by simp -dsimp -implicitDefEqProofs only [go_sem, List.map_append, List.map_cons, List.map_nil, Flt.row, eq_self, ↓reduceIte]) (by simp -dsimp -implicitDefEqProofs only [go_sem, List.map_append, List.map_cons, List.map_nil, Flt.row, eq_self, ↓reduceIte]))
    · (repeat (first | (refine C_seq rfl ?_) | (refine C_block rfl ?_) | (refine S_reg rfl [1,2,3,4,13] [] rfl (fun K hK => ?_); simp -dsimp -implicitDefEqProofs only [go_sem, eq_self, ↓reduceIte]; (refine hK _ _ _ _ (fun hx => ?_)); clear hx hK; simp -dsimp -implicitDefEqProofs only [go_sem, eq_self, ↓reduceIte]; clear K) | (refine C_skip rfl ?_; simp -dsimp -implicitDefEqProofs only [go_sem, eq_self, ↓reduceIte])))
      refine ⟨[], by simpa using hf, ?_⟩
      exact wkF
  intro l1 hl1
  refine M_mid (X := List Flt) rfl (k + 2) (fun l => [(1, .ptr k 0 0), (2, .lit (.slice none 0 0)), (3, accV (k + 1) (List.map Flt.row (l))), (4, .lit (.int .i64 s.cpus))]) (fun l => accH (k + 1) 3 (List.map Flt.row (l)) [(k, ⟨7, true, [St.cells s]⟩)]) (fun l => l = l1 ++ if (s.nu : Int) ≠ s.cpus then [⟨2, 1, 0⟩] else []) ?_ ?_
  · (repeat (first | (refine C_seq rfl ?_) | (refine C_block rfl ?_) | (refine S_reg rfl [1,2,3,4,22] [] rfl (fun K hK => ?_); simp -dsimp -implicitDefEqProofs only [go_sem, eq_self, ↓reduceIte]; (refine hK _ _ _ _ (fun hx => ?_)); clear hx hK; simp -dsimp -implicitDefEqProofs only [go_sem, eq_self, ↓reduceIte]; clear K) | (refine C_skip rfl ?_; simp -dsimp -implicitDefEqProofs only [go_sem, eq_self, ↓reduceIte])))
    refine C_cond rfl _ rfl (fun ht => ?_) (fun hf => ?_)
    · have hlen : l1.length ≤ 1 := by rw [hl1]; split <;> simp
      rw [if_pos (by simpa using ht)]
      clear hl1
      rcases l1 with _ | ⟨x1, l1⟩
      all_goals (refine S_reg rfl [1,2,3,4] [] rfl (fun K hK => ?_); simp -dsimp -implicitDefEqProofs only [go_sem, eq_self, ↓reduceIte]; (repeat' (first | (refine And.intro ?_ ?_) | (refine gs_both (fun hb => ?_) (fun hb => ?_) <;> (have hg := hb; (try simp only [nfb] at hg); simp -dsimp -implicitDefEqProofs only [go_sem, hb, hg, eq_self, ↓reduceIte]; clear hb; (try simp only [nfe] at hg))))); (any_goals ((refine hK _ _ _ _ (fun hx => ?_)); clear hx hK; simp -dsimp -implicitDefEqProofs only [go_sem, eq_self, ↓reduceIte]; (try simp (disch := omega) only [wrap_i64, wrap_u64, wrap_u32, wrap_u8]))); (all_goals (try omega)))
      all_goals (try (simp only [List.length_cons] at hlen; omega))
      all_goals (refine ⟨_, rfl, ?_⟩)
      all_goals (exact Mv.app (k + 3) (k + 1) ⟨by omega, by omega⟩ ⟨by omega, by omega⟩ (wk_low (by omega) (by simp -dsimp -implicitDefEqProofs only [go_sem, List.map_append, List.map_cons, List.map_nil, Flt.row, eq_self, ↓reduceIte]) (by simp -dsimp -implicitDefEqProofs only [go_sem, List.map_append, List.map_cons, List.map_nil, Flt.row, eq_self, ↓reduceIte]) (by simp -dsimp -implicitDefEqProofs only [go_sem, List.map_append, List.map_cons, List.map_nil, Flt.row, eq_self, ↓reduceIte]) (by simp -dsimp -implicitDefEqProofs only [go_sem, List.map_append, List.map_cons, List.map_nil, Flt.row, eq_self, ↓reduceIte])))
    · (repeat (first | (refine C_seq rfl ?_) | (refine C_block rfl ?_) | (refine S_reg rfl [1,2,3,4,22] [] rfl (fun K hK => ?_); simp -dsimp -implicitDefEqProofs only [go_sem, eq_self, ↓reduceIte]; (refine hK _ _ _ _ (fun hx => ?_)); clear hx hK; simp -dsimp -implicitDefEqProofs only [go_sem, eq_self, ↓reduceIte]; clear K) | (refine C_skip rfl ?_; simp -dsimp -implicitDefEqProofs only [go_sem, eq_self, ↓reduceIte])))
      refine ⟨l1 ++ [], by rw [if_neg (by simpa using hf)], ?_⟩
      rw [List.append_nil]
      exact wkF
  intro l2 hl2
  have hl2' : l2 = (if (s.nk : Int) ≠ s.cpus then [⟨2, 0, 0⟩] else []) ++ (if (s.nu : Int) ≠ s.cpus then [⟨2, 1, 0⟩] else []) := by rw [hl2, hl1]
  clear hl2 hl1
  have hlen : l2.length ≤ 2 := by rw [hl2']; split <;> split <;> simp
  refine C_seq rfl ?_
  (repeat (first | (refine C_seq rfl ?_) | (refine C_block rfl ?_) | (refine S_reg rfl [1,2,3,4,34] [] rfl (fun K hK => ?_); simp -dsimp -implicitDefEqProofs only [go_sem, eq_self, ↓reduceIte]; (refine hK _ _ _ _ (fun hx => ?_)); clear hx hK; simp -dsimp -implicitDefEqProofs only [go_sem, eq_self, ↓reduceIte]; clear K) | (refine C_skip rfl ?_; simp -dsimp -implicitDefEqProofs only [go_sem, eq_self, ↓reduceIte])))
  refine C_cond rfl _ rfl (fun ht => ?_) (fun hf => ?_)
  · have hne : s.ns ≠ s.ng := by simp only [bne_iff_ne, ne_eq] at ht; omega
    refine C_seq rfl ?_
    generalize hL : (l2 ++ [⟨2, 2, 0⟩] : List Flt) = L
    have hspec : shapesL s = L := by rw [← hL, hl2', shapesL, if_pos hne]
    rcases l2 with _ | ⟨x1, l2⟩
    all_goals (refine S_reg rfl [1,2] [] rfl (fun K hK => ?_); simp -dsimp -implicitDefEqProofs only [go_sem, eq_self, ↓reduceIte]; (repeat' (first | (refine And.intro ?_ ?_) | (refine gs_both (fun hb => ?_) (fun hb => ?_) <;> (have hg := hb; (try simp only [nfb] at hg); simp -dsimp -implicitDefEqProofs only [go_sem, hb, hg, eq_self, ↓reduceIte]; clear hb; (try simp only [nfe] at hg))))); (any_goals ((refine hK _ _ _ _ (fun hx => ?_)); clear hx hK; simp -dsimp -implicitDefEqProofs only [go_sem, eq_self, ↓reduceIte]; (try simp (disch := omega) only [wrap_i64, wrap_u64, wrap_u32, wrap_u8]))); (all_goals (try omega)))
    all_goals (try (simp only [List.length_cons] at hlen; omega))
    all_goals (refine M_racc rfl (id := k + 3) (s := 3) (l := List.map Flt.row L) 2 (by subst hL; simp -dsimp -implicitDefEqProofs only [go_sem, List.map_append, List.map_cons, List.map_nil, Flt.row, eq_self, ↓reduceIte]) (by subst hL; simp -dsimp -implicitDefEqProofs only [go_sem, List.map_append, List.map_cons, List.map_nil, Flt.row, eq_self, ↓reduceIte]) ?_)
    all_goals (exact ⟨_, rfl, by rw [hspec]; exact VLe.refl _⟩)
  · have heq : s.ns = s.ng := by simp only [bne_eq_false_iff_eq] at hf; omega
    refine C_skip rfl ?_; simp -dsimp -implicitDefEqProofs only [go_sem, eq_self, ↓reduceIte]
    (repeat (first | (refine C_seq rfl ?_) | (refine C_block rfl ?_) | (refine S_reg rfl [1,2,3,4,5,43,53] [] rfl (fun K hK => ?_); simp -dsimp -implicitDefEqProofs only [go_sem, eq_self, ↓reduceIte]; (refine hK _ _ _ _ (fun hx => ?_)); clear hx hK; simp -dsimp -implicitDefEqProofs only [go_sem, eq_self, ↓reduceIte]; clear K) | (refine C_skip rfl ?_; simp -dsimp -implicitDefEqProofs only [go_sem, eq_self, ↓reduceIte])))
    refine M_for (X := Nat) rfl (k + 2) (fun i => (5, .lit (.int .i64 (i : Int))) :: [(1, .ptr k 0 0), (2, .lit (.slice none 0 0)), (3, accV (k + 1) (List.map Flt.row ((l2 ++ flats (shapeAt s) (i))))), (4, .lit (.int .i64 s.cpus))]) (fun i => accH (k + 1) 3 (List.map Flt.row ((l2 ++ flats (shapeAt s) (i)))) [(k, ⟨7, true, [St.cells s]⟩)]) (fun i => i ≤ s.ns) (fun i => s.ns - i) 0 ?_ (Nat.zero_le _) ?_
    · simp only [flats_zero, List.append_nil]
      rw [show ((0 : Nat) : Int) = 0 from rfl]
      exact wkF
    intro i hi
    have hfl := flats_len (shapeAt_len s) i
    refine C_seq rfl ?_
    (repeat (first | (refine C_seq rfl ?_) | (refine C_block rfl ?_) | (refine S_reg rfl [1,2,3,4,5,43] [] rfl (fun K hK => ?_); simp -dsimp -implicitDefEqProofs only [go_sem, eq_self, ↓reduceIte]; (refine hK _ _ _ _ (fun hx => ?_)); clear hx hK; simp -dsimp -implicitDefEqProofs only [go_sem, eq_self, ↓reduceIte]; clear K) | (refine C_skip rfl ?_; simp -dsimp -implicitDefEqProofs only [go_sem, eq_self, ↓reduceIte])))
    refine C_cond rfl _ rfl (fun ht => ?_) (fun hf => ?_)
    · simp only [decide_eq_true_eq] at ht
      refine C_skip rfl ?_; simp -dsimp -implicitDefEqProofs only [go_sem, eq_self, ↓reduceIte]
      refine M_mid (X := List Flt) rfl (k + 2) (fun l => (5, .lit (.int .i64 (i : Int))) :: [(1, .ptr k 0 0), (2, .lit (.slice none 0 0)), (3, accV (k + 1) (List.map Flt.row (l))), (4, .lit (.int .i64 s.cpus))]) (fun l => accH (k + 1) 3 (List.map Flt.row (l)) [(k, ⟨7, true, [St.cells s]⟩)]) (fun l => l = (l2 ++ flats (shapeAt s) (i + 1))) ?_ ?_
      · generalize hL : (l2 ++ flats (shapeAt s) (i)) = L
        have hLl : L.length ≤ 1002 := by rw [← hL, List.length_append]; omega
        refine C_block rfl ?_
        refine C_seq rfl ?_
        refine S_reg rfl [1,2,3,4,5,53] [] rfl (fun K hK => ?_); simp -dsimp -implicitDefEqProofs only [go_sem, eq_self, ↓reduceIte]; (repeat' (first | (refine And.intro ?_ ?_) | (refine gs_both (fun hb => ?_) (fun hb => ?_) <;> (have hg := hb; (try simp only [nfb] at hg); simp -dsimp -implicitDefEqProofs only [go_sem, hb, hg, eq_self, ↓reduceIte]; clear hb; (try simp only [nfe] at hg))))); (any_goals ((refine hK _ _ _ _ (fun hx => ?_)); clear hx hK; simp -dsimp -implicitDefEqProofs only [go_sem, eq_self, ↓reduceIte]; (try simp (disch := omega) only [wrap_i64, wrap_u64, wrap_u32, wrap_u8]))); (all_goals (try omega))
        all_goals (try omega)
        refine C_cond rfl _ rfl (fun ht => ?_) (fun hf => ?_)
        · have hne : l2 ++ flats (shapeAt s) (i + 1) = L ++ [⟨2, 3, i⟩] := by
            simp only [bne_iff_ne, ne_eq] at ht
            rw [flats_succ, ← List.append_assoc, hL, shapeAt, if_neg ht]
          rw [hne]
          clear hL hne
          rcases L with _ | ⟨x1, L⟩
          all_goals (refine S_reg rfl [1,2,3,4,5] [] rfl (fun K hK => ?_); simp -dsimp -implicitDefEqProofs only [go_sem, eq_self, ↓reduceIte]; (repeat' (first | (refine And.intro ?_ ?_) | (refine gs_both (fun hb => ?_) (fun hb => ?_) <;> (have hg := hb; (try simp only [nfb] at hg); simp -dsimp -implicitDefEqProofs only [go_sem, hb, hg, eq_self, ↓reduceIte]; clear hb; (try simp only [nfe] at hg))))); (any_goals ((refine hK _ _ _ _ (fun hx => ?_)); clear hx hK; simp -dsimp -implicitDefEqProofs only [go_sem, eq_self, ↓reduceIte]; (try simp (disch := omega) only [wrap_i64, wrap_u64, wrap_u32, wrap_u8]))); (all_goals (try omega)))
          all_goals (try (simp only [List.length_cons] at hLl; omega))
          all_goals (refine ⟨_, rfl, ?_⟩)
          all_goals (exact Mv.app (k + 3) (k + 1) ⟨by omega, by omega⟩ ⟨by omega, by omega⟩ (wk_low (by omega) (by simp -dsimp -implicitDefEqProofs only [go_sem, List.map_append, List.map_cons, List.map_nil, Flt.row, eq_self, ↓reduceIte]) (by simp -dsimp -implicitDefEqProofs only [go_sem, List.map_append, List.map_cons, List.map_nil, Flt.row, eq_self, ↓reduceIte]) (by simp -dsimp -implicitDefEqProofs only [go_sem, List.map_append, List.map_cons, List.map_nil, Flt.row, eq_self, ↓reduceIte]) (by simp -dsimp -implicitDefEqProofs only [go_sem, List.map_append, List.map_cons, List.map_nil, Flt.row, eq_self, ↓reduceIte])))
        · refine C_skip rfl ?_; simp -dsimp -implicitDefEqProofs only [go_sem, eq_self, ↓reduceIte]
          refine ⟨L, by simp only [bne_eq_false_iff_eq] at hf; rw [flats_succ, ← List.append_assoc, hL, shapeAt, if_pos hf, List.append_nil], ?_⟩
          exact wkF
      · intro l hl
        (repeat (first | (refine C_seq rfl ?_) | (refine C_block rfl ?_) | (refine S_reg rfl [1,2,3,4,5] [] rfl (fun K hK => ?_); simp -dsimp -implicitDefEqProofs only [go_sem, eq_self, ↓reduceIte]; (refine hK _ _ _ _ (fun hx => ?_)); clear hx hK; simp -dsimp -implicitDefEqProofs only [go_sem, eq_self, ↓reduceIte]; clear K) | (refine C_skip rfl ?_; simp -dsimp -implicitDefEqProofs only [go_sem, eq_self, ↓reduceIte])))
        refine ⟨i + 1, by omega, by omega, ?_⟩
        rw [wrap_i64 (by omega) (by omega), ← hl, show ((i + 1 : Nat) : Int) = (i : Int) + 1 from rfl]
        exact wkF
    · simp only [decide_eq_false_iff_not] at hf
      refine C_exit rfl ?_
      simp -dsimp -implicitDefEqProofs only [go_sem, eq_self, ↓reduceIte]
      (repeat (first | (refine C_seq rfl ?_) | (refine C_block rfl ?_) | (refine S_reg rfl [1,2,3,4,5] [] rfl (fun K hK => ?_); simp -dsimp -implicitDefEqProofs only [go_sem, eq_self, ↓reduceIte]; (refine hK _ _ _ _ (fun hx => ?_)); clear hx hK; simp -dsimp -implicitDefEqProofs only [go_sem, eq_self, ↓reduceIte]; clear K) | (refine C_skip rfl ?_; simp -dsimp -implicitDefEqProofs only [go_sem, eq_self, ↓reduceIte])))
      have hi' : i = s.ns := by omega
      subst hi'
      refine M_racc rfl (id := k + 1) (s := 3) (l := List.map Flt.row (l2 ++ flats (shapeAt s) s.ns)) 2 (by simp -dsimp -implicitDefEqProofs only [go_sem, List.map_append, List.map_cons, List.map_nil, Flt.row, eq_self, ↓reduceIte]) (by simp -dsimp -implicitDefEqProofs only [go_sem, List.map_append, List.map_cons, List.map_nil, Flt.row, eq_self, ↓reduceIte]) ?_
      exact ⟨_, rfl, by rw [shapesL, ← hl2', if_neg (by simp [heq])]; exact VLe.refl _⟩
end Go.Proofs.T
end

section
set_option linter.unusedVariables false
set_option linter.unusedSimpArgs false
namespace Go.Proofs.T
open Go Go.AM Go.Proofs
set_option linter.unusedSimpArgs false
set_option linter.unusedVariables false
set_option maxRecDepth 4000
variable {Γ : List (Nat × List AVal)}
def anyB (f : Nat → Bool) : Nat → Bool
  | 0 => false
  | n + 1 => anyB f n || f n
theorem anyB_true {f : Nat → Bool} {i : Nat} (h : f i = true) : ∀ {n : Nat}, i < n → anyB f n = true
  | 0, hn => absurd hn (by omega)
  | n + 1, hn => by
    simp only [anyB, Bool.or_eq_true]
    by_cases he : i = n
    · subst he; exact .inr h
    · exact .inl (anyB_true h (by omega))
theorem anyB_iff {f : Nat → Bool} : ∀ {n : Nat}, anyB f n = true ↔ ∃ i, i < n ∧ f i = true
  | 0 => by simp [anyB]
  | n + 1 => by
    simp only [anyB, Bool.or_eq_true, anyB_iff]
    constructor
    · rintro (⟨i, h1, h2⟩ | h)
      · exact ⟨i, by omega, h2⟩
      · exact ⟨n, by omega, h⟩
    · rintro ⟨i, h1, h2⟩
      by_cases he : i = n
      · subst he; exact .inr h2
      · exact .inl ⟨i, by omega, h2⟩
def isReady (s : St) (id c : Int) (i : Nat) : Bool := decide ((s.tsk i).id = id) && ((s.tsk i).ready && decide ((s.tsk i).cpu = c))
theorem ready_ref (s : St) (id c : Int) (hn : s.nt ≤ 1000) : Pure Tryz.prog Γ 69 [.agg s.cells, .lit (.int .i64 id), .lit (.int .i64 c)] (.lit (.bool (anyB (isReady s id c) s.nt))) := by
  refine Pure_at Tryz.func69 rfl 41 rfl (Nat.le_of_ble_eq_true rfl) rfl fun k => ?_
  (repeat (first | (refine C_seq rfl ?_) | (refine C_block rfl ?_) | (refine S_reg rfl [1,2,3,6,7] [] rfl (fun K hK => ?_); simp -dsimp -implicitDefEqProofs only [go_sem, eq_self, ↓reduceIte]; (refine hK _ _ _ _ (fun hx => ?_)); clear hx hK; simp -dsimp -implicitDefEqProofs only [go_sem, eq_self, ↓reduceIte]; clear K) | (refine C_skip rfl ?_; simp -dsimp -implicitDefEqProofs only [go_sem, eq_self, ↓reduceIte])))
  refine M_for (X := Nat) rfl (k + 1) (fun i => [(1, .lit (.int .i64 id)), (2, .lit (.int .i64 c)), (3, .ptr k 0 0), (7, .lit (.int .i64 (i : Int)))]) (fun i => [(k, ⟨7, true, [St.cells s]⟩)]) (fun i => i ≤ s.nt ∧ anyB (isReady s id c) i = false) (fun i => s.nt - i) 0 ?_ ⟨Nat.zero_le _, rfl⟩ ?_
  · rw [show ((0 : Nat) : Int) = 0 from rfl]
    exact wkF
  rintro i ⟨hi, hany⟩
  refine C_seq rfl ?_
  (repeat (first | (refine C_seq rfl ?_) | (refine C_block rfl ?_) | (refine S_reg rfl [1,2,3,7,12] [] rfl (fun K hK => ?_); simp -dsimp -implicitDefEqProofs only [go_sem, eq_self, ↓reduceIte]; (refine hK _ _ _ _ (fun hx => ?_)); clear hx hK; simp -dsimp -implicitDefEqProofs only [go_sem, eq_self, ↓reduceIte]; clear K) | (refine C_skip rfl ?_; simp -dsimp -implicitDefEqProofs only [go_sem, eq_self, ↓reduceIte])))
  refine C_cond rfl _ rfl (fun ht => ?_) (fun hf => ?_)
  · simp only [decide_eq_true_eq] at ht
    refine C_skip rfl ?_; simp -dsimp -implicitDefEqProofs only [go_sem, eq_self, ↓reduceIte]
    refine M_mid (X := Unit) rfl (k + 1) (fun _ => [(1, .lit (.int .i64 id)), (2, .lit (.int .i64 c)), (3, .ptr k 0 0), (7, .lit (.int .i64 (i : Int)))]) (fun _ => [(k, ⟨7, true, [St.cells s]⟩)]) (fun _ => isReady s id c i = false) ?_ ?_
    · refine C_block rfl ?_
      refine C_seq rfl ?_
      refine S_reg rfl [1,2,3,7,40] [] rfl (fun K hK => ?_); simp -dsimp -implicitDefEqProofs only [go_sem, eq_self, ↓reduceIte]; (repeat' (first | (refine And.intro ?_ ?_) | (refine gs_both (fun hb => ?_) (fun hb => ?_) <;> (have hg := hb; (try simp only [nfb] at hg); simp -dsimp -implicitDefEqProofs only [go_sem, hb, hg, eq_self, ↓reduceIte]; clear hb; (try simp only [nfe] at hg))))); (any_goals ((refine hK _ _ _ _ (fun hx => ?_)); clear hx hK; simp -dsimp -implicitDefEqProofs only [go_sem, eq_self, ↓reduceIte]; (try simp (disch := omega) only [wrap_i64, wrap_u64, wrap_u32, wrap_u8]))); (all_goals (try omega))
      all_goals (try omega)
      all_goals (refine C_cond rfl _ rfl (fun ht => ?_) (fun hf => ?_))
      all_goals (first | (have hrt : isReady s id c i = true := by (simp only [isReady, Bool.and_eq_true, decide_eq_true_eq]; simp_all)) | (have hrf : isReady s id c i = false := by (simp only [isReady, Bool.and_eq_false_iff, decide_eq_false_iff_not]; simp_all)) | (exact absurd ht (by simp)))
      all_goals (first | ((repeat (first | (refine C_seq rfl ?_) | (refine C_block rfl ?_) | (refine S_reg rfl [6] [] rfl (fun K hK => ?_); simp -dsimp -implicitDefEqProofs only [go_sem, eq_self, ↓reduceIte]; (refine hK _ _ _ _ (fun hx => ?_)); clear hx hK; simp -dsimp -implicitDefEqProofs only [go_sem, eq_self, ↓reduceIte]; clear K) | (refine C_skip rfl ?_; simp -dsimp -implicitDefEqProofs only [go_sem, eq_self, ↓reduceIte]))); refine C_ret rfl ⟨_, rfl, VLe.of_eq ?_⟩; rw [anyB_true hrt (by omega)]) | (refine C_skip rfl ?_; simp -dsimp -implicitDefEqProofs only [go_sem, eq_self, ↓reduceIte]; exact ⟨(), hrf, by exact wkF⟩))
    · rintro _ hrf
      (repeat (first | (refine C_seq rfl ?_) | (refine C_block rfl ?_) | (refine S_reg rfl [1,2,3,7] [] rfl (fun K hK => ?_); simp -dsimp -implicitDefEqProofs only [go_sem, eq_self, ↓reduceIte]; (refine hK _ _ _ _ (fun hx => ?_)); clear hx hK; simp -dsimp -implicitDefEqProofs only [go_sem, eq_self, ↓reduceIte]; clear K) | (refine C_skip rfl ?_; simp -dsimp -implicitDefEqProofs only [go_sem, eq_self, ↓reduceIte])))
      refine ⟨i + 1, ⟨by omega, by rw [anyB, hany, hrf]; rfl⟩, by omega, ?_⟩
      rw [wrap_i64 (by omega) (by omega), show ((i + 1 : Nat) : Int) = (i : Int) + 1 from rfl]
      exact wkF
  · simp only [decide_eq_false_iff_not] at hf
    refine C_exit rfl ?_
    simp -dsimp -implicitDefEqProofs only [go_sem, eq_self, ↓reduceIte]
    (repeat (first | (refine C_seq rfl ?_) | (refine C_block rfl ?_) | (refine S_reg rfl [6] [] rfl (fun K hK => ?_); simp -dsimp -implicitDefEqProofs only [go_sem, eq_self, ↓reduceIte]; (refine hK _ _ _ _ (fun hx => ?_)); clear hx hK; simp -dsimp -implicitDefEqProofs only [go_sem, eq_self, ↓reduceIte]; clear K) | (refine C_skip rfl ?_; simp -dsimp -implicitDefEqProofs only [go_sem, eq_self, ↓reduceIte])))
    have hi' : i = s.nt := by omega
    subst hi'
    refine C_ret rfl ⟨_, rfl, VLe.of_eq ?_⟩
    rw [hany]
theorem half_pow (m : Int) (i : Nat) (hm : 0 ≤ m) : (m / 2 ^ i).tdiv 2 = m / 2 ^ (i + 1) := by
  rw [Int.tdiv_eq_ediv_of_nonneg (Int.ediv_nonneg hm (Int.le_of_lt (Int.pow_pos (by omega)))), Int.ediv_ediv_of_nonneg (Int.le_of_lt (Int.pow_pos (by omega))), Int.pow_succ]
theorem pow_bd (m : Int) (i : Nat) (hm : 0 ≤ m) : 0 ≤ m / 2 ^ i ∧ m / 2 ^ i ≤ m :=
  ⟨Int.ediv_nonneg hm (Int.le_of_lt (Int.pow_pos (by omega))), Int.ediv_le_self _ hm⟩
def bitB (m : Int) (c : Nat) : Bool := decide (m / 2 ^ c % 2 = 1)
theorem bit_ref (m c : Int) (hm : 0 ≤ m) (hm2 : m < 18446744073709551616) (hc : c ≤ 9223372036854775807) : Pure Tryz.prog Γ 88 [.lit (.int .u64 m), .lit (.int .i64 c)] (.lit (.bool (bitB m c.toNat))) := by
  refine Pure_at Tryz.func88 rfl 16 rfl (Nat.le_of_ble_eq_true rfl) rfl fun k => ?_
  (repeat (first | (refine C_seq rfl ?_) | (refine C_block rfl ?_) | (refine S_reg rfl [0,1,4,5,8] [] rfl (fun K hK => ?_); simp -dsimp -implicitDefEqProofs only [go_sem, eq_self, ↓reduceIte]; (refine hK _ _ _ _ (fun hx => ?_)); clear hx hK; simp -dsimp -implicitDefEqProofs only [go_sem, eq_self, ↓reduceIte]; clear K) | (refine C_skip rfl ?_; simp -dsimp -implicitDefEqProofs only [go_sem, eq_self, ↓reduceIte])))
  refine M_for (X := Nat) rfl k (fun i => [(0, .lit (.int .u64 (m / 2 ^ i))), (1, .lit (.int .i64 c)), (5, .lit (.int .i64 (i : Int)))]) (fun _ => []) (fun i => i ≤ c.toNat) (fun i => c.toNat - i) 0 ?_ (Nat.zero_le _) ?_
  · rw [show ((0 : Nat) : Int) = 0 from rfl, Int.pow_zero, Int.ediv_one]
    exact wkF
  intro i hi
  have hb := pow_bd m i hm
  (repeat (first | (refine C_seq rfl ?_) | (refine C_block rfl ?_) | (refine S_reg rfl [0,1,4,5,8] [] rfl (fun K hK => ?_); simp -dsimp -implicitDefEqProofs only [go_sem, eq_self, ↓reduceIte]; (refine hK _ _ _ _ (fun hx => ?_)); clear hx hK; simp -dsimp -implicitDefEqProofs only [go_sem, eq_self, ↓reduceIte]; clear K) | (refine C_skip rfl ?_; simp -dsimp -implicitDefEqProofs only [go_sem, eq_self, ↓reduceIte])))
  refine C_cond rfl _ rfl (fun ht => ?_) (fun hf => ?_)
  · simp only [decide_eq_true_eq] at ht
    (repeat (first | (refine C_seq rfl ?_) | (refine C_block rfl ?_) | (refine S_reg rfl [0,1,4,5,8] [] rfl (fun K hK => ?_); simp -dsimp -implicitDefEqProofs only [go_sem, eq_self, ↓reduceIte]; (refine hK _ _ _ _ (fun hx => ?_)); clear hx hK; simp -dsimp -implicitDefEqProofs only [go_sem, eq_self, ↓reduceIte]; clear K) | (refine C_skip rfl ?_; simp -dsimp -implicitDefEqProofs only [go_sem, eq_self, ↓reduceIte])))
    refine ⟨i + 1, by omega, by omega, ?_⟩
    rw [half_pow m i hm, wrap_u64 (pow_bd m (i + 1) hm).1 (by have := (pow_bd m (i + 1) hm).2; omega), wrap_i64 (by omega) (by omega), show ((i + 1 : Nat) : Int) = (i : Int) + 1 from rfl]
    exact wkF
  · simp only [decide_eq_false_iff_not] at hf
    refine C_exit rfl ?_
    simp -dsimp -implicitDefEqProofs only [go_sem, eq_self, ↓reduceIte]
    (repeat (first | (refine C_seq rfl ?_) | (refine C_block rfl ?_) | (refine S_reg rfl [0,1,4,5,8] [] rfl (fun K hK => ?_); simp -dsimp -implicitDefEqProofs only [go_sem, eq_self, ↓reduceIte]; (refine hK _ _ _ _ (fun hx => ?_)); clear hx hK; simp -dsimp -implicitDefEqProofs only [go_sem, eq_self, ↓reduceIte]; clear K) | (refine C_skip rfl ?_; simp -dsimp -implicitDefEqProofs only [go_sem, eq_self, ↓reduceIte])))
    have hi' : i = c.toNat := by omega
    subst hi'
    refine C_ret rfl ⟨_, rfl, VLe.of_eq ?_⟩
    have h1 : (m / 2 ^ c.toNat).tmod 2 = m / 2 ^ c.toNat % 2 := Int.tmod_eq_emod_of_nonneg hb.1
    rw [h1]
    simp only [AVal.lit.injEq, Value.bool.injEq, bitB]
    rw [Bool.eq_iff_iff]; simp
end Go.Proofs.T
end
