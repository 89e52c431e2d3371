import Derived.Test.YtegccfgfddpmpaaGreatDoorZAE
import Derived.Test.YtegccfgfddpmpaaGreatDoorProg
import Derived.Shelf.Strconv.Itoa3
import Derived.Shelf.Strconv.AtoiAll
import Derived.Shelf.Strings.Split
import Derived.KernelRfl

section
set_option linter.unusedVariables false
set_option linter.unusedSimpArgs false
namespace Go.AM
open Go.Proofs
set_option maxRecDepth 100000
@[go_sem] theorem y1 : callable Tryz.prog 1 = false := by kernel_rfl
@[go_sem] theorem y2 : arr Tryz.prog 23 = none := by kernel_rfl
@[go_sem] theorem y3 : tagg Tryz.prog 23 = some true := by kernel_rfl
@[go_sem] theorem y4 : tsz Tryz.prog 23 = some 3 := by kernel_rfl
@[go_sem] theorem y5 : callable Tryz.prog 5 = true := by kernel_rfl
@[go_sem] theorem y6 : callable Tryz.prog 6 = true := by kernel_rfl
@[go_sem] theorem y7 : zcells Tryz.prog 37 = some [AVal.lit (Value.int IntKind.i64 0), AVal.lit (Value.int IntKind.i64 0)] := by kernel_rfl
@[go_sem] theorem y8 : placesOf Tryz.prog 37 = some { toList := [(0, 1), (1, 1)] } := by kernel_rfl
@[go_sem] theorem y9 : isStructT Tryz.prog 37 = true := by kernel_rfl
@[go_sem] theorem y10 : arrE Tryz.prog 37 = none := by kernel_rfl
@[go_sem] theorem y11 : ezero Tryz.prog 27 = some (2, 16, [AVal.lit (Value.int IntKind.i64 0), AVal.lit (Value.int IntKind.i64 0)]) := by kernel_rfl
@[go_sem] theorem ap_27 {H0 : Heap} {k id : Nat} {l : List (List AVal)} {y : Option AVal} (hin : accIn H0 id 2 l) (hid : id < k) : aAppend Tryz.prog (AM.look H0) k 27 (some (accV id l)) y = appR 2 16 k id l (y.bind (aSrc (AM.look H0))) := app_acc y11 hin hid
@[go_sem] theorem ln_27 {H0 : Heap} {k id : Nat} {l : List (List AVal)} (hin : accIn H0 id 2 l) : lenO Tryz.prog (AM.look H0) k 27 (some (accV id l)) = some ⟨.lit (.int .i64 (l.length : Int)), k, [], accRds id l⟩ := len_acc (by kernel_rfl) hin
@[go_sem] theorem y12 : zcells Tryz.prog 29 = some [AVal.lit (Value.int IntKind.i64 0), AVal.lit (Value.int IntKind.u64 0), AVal.lit (Value.slice none 0 0)] := by kernel_rfl
@[go_sem] theorem y13 : placesOf Tryz.prog 29 = some { toList := [(0, 1), (1, 1), (2, 1)] } := by kernel_rfl
@[go_sem] theorem y14 : isStructT Tryz.prog 29 = true := by kernel_rfl
@[go_sem] theorem y15 : arrE Tryz.prog 29 = none := by kernel_rfl
@[go_sem] theorem y16 : callable Tryz.prog 7 = true := by kernel_rfl
@[go_sem] theorem y17 : zcells Tryz.prog 34 = some [AVal.lit (Value.int IntKind.i64 0), AVal.lit (Value.int IntKind.u64 0), AVal.lit (Value.slice none 0 0), AVal.lit (Value.slice none 0 0), AVal.lit (Value.slice none 0 0), AVal.lit (Value.slice none 0 0), AVal.lit (Value.slice none 0 0)] := by kernel_rfl
@[go_sem] theorem y18 : arr Tryz.prog 34 = none := by kernel_rfl
@[go_sem] theorem y19 : tsz Tryz.prog 34 = some 7 := by kernel_rfl
@[go_sem] theorem y20 : zcells Tryz.prog 40 = some [AVal.lit (Value.int IntKind.i64 0), AVal.lit (Value.int IntKind.i64 0), AVal.lit (Value.int IntKind.i64 0), AVal.lit (Value.int IntKind.i64 0), AVal.lit (Value.int IntKind.u64 0), AVal.lit (Value.bool false), AVal.lit (Value.int IntKind.u64 0), AVal.lit (Value.int IntKind.u32 0)] := by kernel_rfl
@[go_sem] theorem y21 : placesOf Tryz.prog 40 = some { toList := [(0, 1), (1, 1), (2, 1), (3, 1), (4, 1), (5, 1), (6, 1), (7, 1)] } := by kernel_rfl
@[go_sem] theorem y22 : isStructT Tryz.prog 40 = true := by kernel_rfl
@[go_sem] theorem y23 : arrE Tryz.prog 40 = none := by kernel_rfl
@[go_sem] theorem y24 : ezero Tryz.prog 31 = some (8, 64, [AVal.lit (Value.int IntKind.i64 0), AVal.lit (Value.int IntKind.i64 0), AVal.lit (Value.int IntKind.i64 0), AVal.lit (Value.int IntKind.i64 0), AVal.lit (Value.int IntKind.u64 0), AVal.lit (Value.bool false), AVal.lit (Value.int IntKind.u64 0), AVal.lit (Value.int IntKind.u32 0)]) := by kernel_rfl
@[go_sem] theorem ap_31 {H0 : Heap} {k id : Nat} {l : List (List AVal)} {y : Option AVal} (hin : accIn H0 id 8 l) (hid : id < k) : aAppend Tryz.prog (AM.look H0) k 31 (some (accV id l)) y = appR 8 64 k id l (y.bind (aSrc (AM.look H0))) := app_acc y24 hin hid
@[go_sem] theorem ln_31 {H0 : Heap} {k id : Nat} {l : List (List AVal)} (hin : accIn H0 id 8 l) : lenO Tryz.prog (AM.look H0) k 31 (some (accV id l)) = some ⟨.lit (.int .i64 (l.length : Int)), k, [], accRds id l⟩ := len_acc (by kernel_rfl) hin
@[go_sem] theorem y25 : fieldOff Tryz.prog 34 3 = some 5 := by kernel_rfl
@[go_sem] theorem y26 : tsz Tryz.prog 31 = some 1 := by kernel_rfl
@[go_sem] theorem y27 : ezero Tryz.prog 30 = some (1, 8, [AVal.lit (Value.int IntKind.i64 0)]) := by kernel_rfl
@[go_sem] theorem ap_30 {H0 : Heap} {k id : Nat} {l : List (List AVal)} {y : Option AVal} (hin : accIn H0 id 1 l) (hid : id < k) : aAppend Tryz.prog (AM.look H0) k 30 (some (accV id l)) y = appR 1 8 k id l (y.bind (aSrc (AM.look H0))) := app_acc y27 hin hid
@[go_sem] theorem ln_30 {H0 : Heap} {k id : Nat} {l : List (List AVal)} (hin : accIn H0 id 1 l) : lenO Tryz.prog (AM.look H0) k 30 (some (accV id l)) = some ⟨.lit (.int .i64 (l.length : Int)), k, [], accRds id l⟩ := len_acc (by kernel_rfl) hin
@[go_sem] theorem y28 : fieldOff Tryz.prog 34 2 = some 4 := by kernel_rfl
@[go_sem] theorem y29 : tsz Tryz.prog 30 = some 1 := by kernel_rfl
@[go_sem] theorem y30 : fieldOff Tryz.prog 34 4 = some 6 := by kernel_rfl
@[go_sem] theorem y31 : tagg Tryz.prog 32 = some false := by kernel_rfl
@[go_sem] theorem y32 : tsz Tryz.prog 32 = some 1 := by kernel_rfl
@[go_sem] theorem y33 : esz Tryz.prog 32 = some 1 := by kernel_rfl
@[go_sem] theorem y34 : arr Tryz.prog 32 = none := by kernel_rfl
@[go_sem] theorem y35 : tagg Tryz.prog 43 = some false := by kernel_rfl
@[go_sem] theorem y36 : tsz Tryz.prog 43 = some 1 := by kernel_rfl
@[go_sem] theorem y37 : zcells Tryz.prog 42 = some [AVal.lit (Value.int IntKind.u64 0), AVal.lit (Value.int IntKind.u32 0), AVal.lit (Value.int IntKind.u64 0)] := by kernel_rfl
@[go_sem] theorem y38 : placesOf Tryz.prog 42 = some { toList := [(0, 1), (1, 1), (2, 1)] } := by kernel_rfl
@[go_sem] theorem y39 : isStructT Tryz.prog 42 = true := by kernel_rfl
@[go_sem] theorem y40 : arrE Tryz.prog 42 = none := by kernel_rfl
@[go_sem] theorem y41 : esz Tryz.prog 43 = some 3 := by kernel_rfl
@[go_sem] theorem y42 : arr Tryz.prog 43 = none := by kernel_rfl
@[go_sem] theorem y43 : fieldOff Tryz.prog 42 2 = some 2 := by kernel_rfl
@[go_sem] theorem y44 : tsz Tryz.prog 26 = some 1 := by kernel_rfl
@[go_sem] theorem y45 : tsz Tryz.prog 42 = some 3 := by kernel_rfl
@[go_sem] theorem y46 : tagg Tryz.prog 34 = some true := by kernel_rfl
@[go_sem] theorem y47 : callable Tryz.prog 8 = true := by kernel_rfl
@[go_sem] theorem y48 : callable Tryz.prog 9 = true := by kernel_rfl
@[go_sem] theorem y49 : callable Tryz.prog 10 = true := by kernel_rfl
@[go_sem] theorem y50 : isSliceT Tryz.prog 30 = true := by kernel_rfl
@[go_sem] theorem y51 : isStrT Tryz.prog 30 = false := by kernel_rfl
@[go_sem] theorem y52 : esz Tryz.prog 30 = some 1 := by kernel_rfl
@[go_sem] theorem y53 : arr Tryz.prog 30 = none := by kernel_rfl
@[go_sem] theorem y54 : tagg Tryz.prog 3 = some false := by kernel_rfl
@[go_sem] theorem y55 : tsz Tryz.prog 3 = some 1 := by kernel_rfl
@[go_sem] theorem y56 : ikind Tryz.prog 3 = some IntKind.i64 := by kernel_rfl
@[go_sem] theorem y57 : ikind Tryz.prog 5 = some IntKind.u8 := by kernel_rfl
@[go_sem] theorem y58 : isStrT Tryz.prog 5 = false := by kernel_rfl
@[go_sem] theorem y59 : zcells Tryz.prog 23 = some [AVal.lit (Value.int IntKind.u8 0), AVal.lit (Value.int IntKind.i64 0), AVal.lit (Value.int IntKind.i64 0)] := by kernel_rfl
@[go_sem] theorem y60 : placesOf Tryz.prog 23 = some { toList := [(0, 1), (1, 1), (2, 1)] } := by kernel_rfl
@[go_sem] theorem y61 : isStructT Tryz.prog 23 = true := by kernel_rfl
@[go_sem] theorem y62 : arrE Tryz.prog 23 = none := by kernel_rfl
@[go_sem] theorem y63 : callable Tryz.prog 11 = true := by kernel_rfl
@[go_sem] theorem y64 : esz Tryz.prog 47 = some 1 := by kernel_rfl
@[go_sem] theorem y65 : arr Tryz.prog 47 = none := by kernel_rfl
@[go_sem] theorem y66 : tagg Tryz.prog 9 = some false := by kernel_rfl
@[go_sem] theorem y67 : tsz Tryz.prog 9 = some 1 := by kernel_rfl
@[go_sem] theorem y68 : ezero Tryz.prog 47 = some (1, 16, [AVal.lit (Value.string { data := { toList := [] } })]) := by kernel_rfl
@[go_sem] theorem ap_47 {H0 : Heap} {k id : Nat} {l : List (List AVal)} {y : Option AVal} (hin : accIn H0 id 1 l) (hid : id < k) : aAppend Tryz.prog (AM.look H0) k 47 (some (accV id l)) y = appR 1 16 k id l (y.bind (aSrc (AM.look H0))) := app_acc y68 hin hid
@[go_sem] theorem ln_47 {H0 : Heap} {k id : Nat} {l : List (List AVal)} (hin : accIn H0 id 1 l) : lenO Tryz.prog (AM.look H0) k 47 (some (accV id l)) = some ⟨.lit (.int .i64 (l.length : Int)), k, [], accRds id l⟩ := len_acc (by kernel_rfl) hin
@[go_sem] theorem y69 : isSliceT Tryz.prog 47 = true := by kernel_rfl
@[go_sem] theorem y70 : isStrT Tryz.prog 47 = false := by kernel_rfl
@[go_sem] theorem y71 : isSliceT Tryz.prog 9 = false := by kernel_rfl
@[go_sem] theorem y72 : isStrT Tryz.prog 9 = true := by kernel_rfl
@[go_sem] theorem y73 : esz Tryz.prog 9 = none := by kernel_rfl
@[go_sem] theorem y74 : arr Tryz.prog 9 = none := by kernel_rfl
@[go_sem] theorem y75 : placesOf Tryz.prog 34 = some { toList := [(0, 3), (3, 1), (4, 1), (5, 1), (6, 1)] } := by kernel_rfl
@[go_sem] theorem y76 : isStructT Tryz.prog 34 = true := by kernel_rfl
@[go_sem] theorem y77 : arrE Tryz.prog 34 = none := by kernel_rfl
@[go_sem] theorem y78 : callable Tryz.prog 12 = true := by kernel_rfl
@[go_sem] theorem y79 : isSliceT Tryz.prog 49 = true := by kernel_rfl
@[go_sem] theorem y80 : isStrT Tryz.prog 49 = false := by kernel_rfl
@[go_sem] theorem y81 : tagOf Tryz.prog 3 = some 0 := by kernel_rfl
@[go_sem] theorem y82 : eqOffs Tryz.prog 3 = none := by kernel_rfl
@[go_sem] theorem y83 : refT Tryz.prog 3 = none := by kernel_rfl
@[go_sem] theorem y84 : fieldOff Tryz.prog 23 0 = some 0 := by kernel_rfl
@[go_sem] theorem y85 : tagg Tryz.prog 5 = some false := by kernel_rfl
@[go_sem] theorem y86 : tsz Tryz.prog 5 = some 1 := by kernel_rfl
@[go_sem] theorem y87 : callable Tryz.prog 13 = true := by kernel_rfl
@[go_sem] theorem y88 : callable Tryz.prog 14 = true := by kernel_rfl
@[go_sem] theorem y89 : callable Tryz.prog 15 = true := by kernel_rfl
@[go_sem] theorem y90 : callable Tryz.prog 16 = true := by kernel_rfl
@[go_sem] theorem y91 : zcells Tryz.prog 56 = some [AVal.lit (Value.int IntKind.u8 0), AVal.lit (Value.int IntKind.i64 0), AVal.lit (Value.int IntKind.i64 0)] := by kernel_rfl
@[go_sem] theorem y92 : arr Tryz.prog 56 = none := by kernel_rfl
@[go_sem] theorem y93 : tsz Tryz.prog 56 = some 3 := by kernel_rfl
@[go_sem] theorem y94 : callable Tryz.prog 17 = true := by kernel_rfl
@[go_sem] theorem y95 : tagOf Tryz.prog 9 = some 2 := by kernel_rfl
@[go_sem] theorem y96 : eqOffs Tryz.prog 9 = none := by kernel_rfl
@[go_sem] theorem y97 : refT Tryz.prog 9 = none := by kernel_rfl
@[go_sem] theorem y98 : tagg Tryz.prog 56 = some true := by kernel_rfl
@[go_sem] theorem y99 : tagOf Tryz.prog 56 = none := by kernel_rfl
@[go_sem] theorem y100 : eqOffs Tryz.prog 56 = some [(0, 0), (1, 0), (2, 0)] := by kernel_rfl
@[go_sem] theorem y101 : refT Tryz.prog 56 = none := by kernel_rfl
@[go_sem] theorem y102 : callable Tryz.prog 19 = true := by kernel_rfl
@[go_sem] theorem y103 : callable Tryz.prog 18 = true := by kernel_rfl
@[go_sem] theorem y104 : callable Tryz.prog 20 = true := by kernel_rfl
@[go_sem] theorem y105 : fieldOff Tryz.prog 34 1 = some 3 := by kernel_rfl
@[go_sem] theorem y106 : ezero Tryz.prog 65 = some (7, 136, [AVal.lit (Value.int IntKind.i64 0), AVal.lit (Value.int IntKind.u64 0), AVal.lit (Value.slice none 0 0), AVal.lit (Value.slice none 0 0), AVal.lit (Value.slice none 0 0), AVal.lit (Value.slice none 0 0), AVal.lit (Value.slice none 0 0)]) := by kernel_rfl
@[go_sem] theorem ap_65 {H0 : Heap} {k id : Nat} {l : List (List AVal)} {y : Option AVal} (hin : accIn H0 id 7 l) (hid : id < k) : aAppend Tryz.prog (AM.look H0) k 65 (some (accV id l)) y = appR 7 136 k id l (y.bind (aSrc (AM.look H0))) := app_acc y106 hin hid
@[go_sem] theorem ln_65 {H0 : Heap} {k id : Nat} {l : List (List AVal)} (hin : accIn H0 id 7 l) : lenO Tryz.prog (AM.look H0) k 65 (some (accV id l)) = some ⟨.lit (.int .i64 (l.length : Int)), k, [], accRds id l⟩ := len_acc (by kernel_rfl) hin
@[go_sem] theorem y107 : isSliceT Tryz.prog 65 = true := by kernel_rfl
@[go_sem] theorem y108 : isStrT Tryz.prog 65 = false := by kernel_rfl
@[go_sem] theorem y109 : esz Tryz.prog 65 = some 7 := by kernel_rfl
@[go_sem] theorem y110 : arr Tryz.prog 65 = none := by kernel_rfl
@[go_sem] theorem y111 : ezero Tryz.prog 66 = some (1, 24, [AVal.lit (Value.slice none 0 0)]) := by kernel_rfl
@[go_sem] theorem ap_66 {H0 : Heap} {k id : Nat} {l : List (List AVal)} {y : Option AVal} (hin : accIn H0 id 1 l) (hid : id < k) : aAppend Tryz.prog (AM.look H0) k 66 (some (accV id l)) y = appR 1 24 k id l (y.bind (aSrc (AM.look H0))) := app_acc y111 hin hid
@[go_sem] theorem ln_66 {H0 : Heap} {k id : Nat} {l : List (List AVal)} (hin : accIn H0 id 1 l) : lenO Tryz.prog (AM.look H0) k 66 (some (accV id l)) = some ⟨.lit (.int .i64 (l.length : Int)), k, [], accRds id l⟩ := len_acc (by kernel_rfl) hin
@[go_sem] theorem y112 : esz Tryz.prog 66 = some 1 := by kernel_rfl
@[go_sem] theorem y113 : arr Tryz.prog 66 = none := by kernel_rfl
@[go_sem] theorem y114 : tagg Tryz.prog 47 = some false := by kernel_rfl
@[go_sem] theorem y115 : tsz Tryz.prog 47 = some 1 := by kernel_rfl
@[go_sem] theorem y116 : callable Tryz.prog 21 = true := by kernel_rfl
@[go_sem] theorem y117 : tagOf Tryz.prog 51 = some 0 := by kernel_rfl
@[go_sem] theorem y118 : eqOffs Tryz.prog 51 = none := by kernel_rfl
@[go_sem] theorem y119 : refT Tryz.prog 51 = none := by kernel_rfl
@[go_sem] theorem y120 : arr Tryz.prog 29 = none := by kernel_rfl
@[go_sem] theorem y121 : tagg Tryz.prog 29 = some true := by kernel_rfl
@[go_sem] theorem y122 : tsz Tryz.prog 29 = some 3 := by kernel_rfl
@[go_sem] theorem y123 : fieldOff Tryz.prog 29 0 = some 0 := by kernel_rfl
@[go_sem] theorem y124 : callable Tryz.prog 22 = true := by kernel_rfl
@[go_sem] theorem y125 : fieldOff Tryz.prog 29 2 = some 2 := by kernel_rfl
@[go_sem] theorem y126 : tagg Tryz.prog 27 = some false := by kernel_rfl
@[go_sem] theorem y127 : tsz Tryz.prog 27 = some 1 := by kernel_rfl
@[go_sem] theorem y128 : isSliceT Tryz.prog 27 = true := by kernel_rfl
@[go_sem] theorem y129 : isStrT Tryz.prog 27 = false := by kernel_rfl
@[go_sem] theorem y130 : ezero Tryz.prog 43 = some (3, 24, [AVal.lit (Value.int IntKind.u64 0), AVal.lit (Value.int IntKind.u32 0), AVal.lit (Value.int IntKind.u64 0)]) := by kernel_rfl
@[go_sem] theorem ap_43 {H0 : Heap} {k id : Nat} {l : List (List AVal)} {y : Option AVal} (hin : accIn H0 id 3 l) (hid : id < k) : aAppend Tryz.prog (AM.look H0) k 43 (some (accV id l)) y = appR 3 24 k id l (y.bind (aSrc (AM.look H0))) := app_acc y130 hin hid
@[go_sem] theorem ln_43 {H0 : Heap} {k id : Nat} {l : List (List AVal)} (hin : accIn H0 id 3 l) : lenO Tryz.prog (AM.look H0) k 43 (some (accV id l)) = some ⟨.lit (.int .i64 (l.length : Int)), k, [], accRds id l⟩ := len_acc (by kernel_rfl) hin
@[go_sem] theorem y131 : ezero Tryz.prog 32 = some (1, 24, [AVal.lit (Value.slice none 0 0)]) := by kernel_rfl
@[go_sem] theorem ap_32 {H0 : Heap} {k id : Nat} {l : List (List AVal)} {y : Option AVal} (hin : accIn H0 id 1 l) (hid : id < k) : aAppend Tryz.prog (AM.look H0) k 32 (some (accV id l)) y = appR 1 24 k id l (y.bind (aSrc (AM.look H0))) := app_acc y131 hin hid
@[go_sem] theorem ln_32 {H0 : Heap} {k id : Nat} {l : List (List AVal)} (hin : accIn H0 id 1 l) : lenO Tryz.prog (AM.look H0) k 32 (some (accV id l)) = some ⟨.lit (.int .i64 (l.length : Int)), k, [], accRds id l⟩ := len_acc (by kernel_rfl) hin
@[go_sem] theorem y132 : callable Tryz.prog 23 = true := by kernel_rfl
@[go_sem] theorem y133 : tagg Tryz.prog 31 = some false := by kernel_rfl
@[go_sem] theorem y134 : isSliceT Tryz.prog 31 = true := by kernel_rfl
@[go_sem] theorem y135 : isStrT Tryz.prog 31 = false := by kernel_rfl
@[go_sem] theorem y136 : fieldOff Tryz.prog 34 0 = some 0 := by kernel_rfl
@[go_sem] theorem y137 : isSliceT Tryz.prog 32 = true := by kernel_rfl
@[go_sem] theorem y138 : isStrT Tryz.prog 32 = false := by kernel_rfl
@[go_sem] theorem y139 : isSliceT Tryz.prog 43 = true := by kernel_rfl
@[go_sem] theorem y140 : isStrT Tryz.prog 43 = false := by kernel_rfl
@[go_sem] theorem y141 : tagg Tryz.prog 30 = some false := by kernel_rfl
@[go_sem] theorem y142 : esz Tryz.prog 31 = some 8 := by kernel_rfl
@[go_sem] theorem y143 : arr Tryz.prog 31 = none := by kernel_rfl
@[go_sem] theorem y144 : esz Tryz.prog 27 = some 2 := by kernel_rfl
@[go_sem] theorem y145 : arr Tryz.prog 27 = none := by kernel_rfl
@[go_sem] theorem y146 : fieldOff Tryz.prog 37 1 = some 1 := by kernel_rfl
@[go_sem] theorem y147 : fieldOff Tryz.prog 37 0 = some 0 := by kernel_rfl
@[go_sem] theorem y148 : fieldOff Tryz.prog 29 1 = some 1 := by kernel_rfl
@[go_sem] theorem y149 : tagg Tryz.prog 26 = some false := by kernel_rfl
@[go_sem] theorem y150 : fieldOff Tryz.prog 40 0 = some 0 := by kernel_rfl
@[go_sem] theorem y151 : fieldOff Tryz.prog 40 1 = some 1 := by kernel_rfl
@[go_sem] theorem y152 : fieldOff Tryz.prog 40 3 = some 3 := by kernel_rfl
@[go_sem] theorem y153 : fieldOff Tryz.prog 40 4 = some 4 := by kernel_rfl
@[go_sem] theorem y154 : fieldOff Tryz.prog 40 7 = some 7 := by kernel_rfl
@[go_sem] theorem y155 : tsz Tryz.prog 38 = some 1 := by kernel_rfl
@[go_sem] theorem y156 : fieldOff Tryz.prog 40 2 = some 2 := by kernel_rfl
@[go_sem] theorem y157 : fieldOff Tryz.prog 42 1 = some 1 := by kernel_rfl
@[go_sem] theorem y158 : fieldOff Tryz.prog 42 0 = some 0 := by kernel_rfl
@[go_sem] theorem y159 : fieldOff Tryz.prog 40 6 = some 6 := by kernel_rfl
@[go_sem] theorem y160 : callable Tryz.prog 24 = true := by kernel_rfl
@[go_sem] theorem y161 : callable Tryz.prog 26 = true := by kernel_rfl
@[go_sem] theorem y162 : callable Tryz.prog 25 = true := by kernel_rfl
@[go_sem] theorem y163 : callable Tryz.prog 27 = true := by kernel_rfl
@[go_sem] theorem y164 : callable Tryz.prog 28 = true := by kernel_rfl
@[go_sem] theorem y165 : zcells Tryz.prog 78 = some [AVal.lit (Value.int IntKind.i64 0), AVal.lit (Value.int IntKind.u64 0), AVal.lit (Value.slice none 0 0), AVal.lit (Value.slice none 0 0), AVal.lit (Value.slice none 0 0), AVal.lit (Value.slice none 0 0), AVal.lit (Value.slice none 0 0), AVal.lit (Value.slice none 0 0)] := by kernel_rfl
@[go_sem] theorem y166 : placesOf Tryz.prog 78 = some { toList := [(0, 7), (7, 1)] } := by kernel_rfl
@[go_sem] theorem y167 : isStructT Tryz.prog 78 = true := by kernel_rfl
@[go_sem] theorem y168 : arrE Tryz.prog 78 = none := by kernel_rfl
@[go_sem] theorem y169 : arr Tryz.prog 78 = none := by kernel_rfl
@[go_sem] theorem y170 : callable Tryz.prog 29 = true := by kernel_rfl
@[go_sem] theorem y171 : ezero Tryz.prog 49 = some (3, 24, [AVal.lit (Value.int IntKind.u8 0), AVal.lit (Value.int IntKind.i64 0), AVal.lit (Value.int IntKind.i64 0)]) := by kernel_rfl
@[go_sem] theorem ap_49 {H0 : Heap} {k id : Nat} {l : List (List AVal)} {y : Option AVal} (hin : accIn H0 id 3 l) (hid : id < k) : aAppend Tryz.prog (AM.look H0) k 49 (some (accV id l)) y = appR 3 24 k id l (y.bind (aSrc (AM.look H0))) := app_acc y171 hin hid
@[go_sem] theorem ln_49 {H0 : Heap} {k id : Nat} {l : List (List AVal)} (hin : accIn H0 id 3 l) : lenO Tryz.prog (AM.look H0) k 49 (some (accV id l)) = some ⟨.lit (.int .i64 (l.length : Int)), k, [], accRds id l⟩ := len_acc (by kernel_rfl) hin
@[go_sem] theorem y172 : ezero Tryz.prog 81 = some (1, 8, [AVal.lit Value.nilFunc]) := by kernel_rfl
@[go_sem] theorem ap_81 {H0 : Heap} {k id : Nat} {l : List (List AVal)} {y : Option AVal} (hin : accIn H0 id 1 l) (hid : id < k) : aAppend Tryz.prog (AM.look H0) k 81 (some (accV id l)) y = appR 1 8 k id l (y.bind (aSrc (AM.look H0))) := app_acc y172 hin hid
@[go_sem] theorem ln_81 {H0 : Heap} {k id : Nat} {l : List (List AVal)} (hin : accIn H0 id 1 l) : lenO Tryz.prog (AM.look H0) k 81 (some (accV id l)) = some ⟨.lit (.int .i64 (l.length : Int)), k, [], accRds id l⟩ := len_acc (by kernel_rfl) hin
@[go_sem] theorem y173 : zcells Tryz.prog 82 = some [AVal.lit (Value.slice none 0 0), AVal.lit (Value.slice none 0 0), AVal.lit (Value.slice none 0 0)] := by kernel_rfl
@[go_sem] theorem y174 : placesOf Tryz.prog 82 = some { toList := [(0, 1), (1, 1), (2, 1)] } := by kernel_rfl
@[go_sem] theorem y175 : isStructT Tryz.prog 82 = false := by kernel_rfl
@[go_sem] theorem y176 : arrE Tryz.prog 82 = some (3, 1, false) := by kernel_rfl
@[go_sem] theorem y177 : arr Tryz.prog 82 = some (3, 1) := by kernel_rfl
@[go_sem] theorem y178 : tsz Tryz.prog 82 = some 3 := by kernel_rfl
@[go_sem] theorem y179 : tagg Tryz.prog 82 = some true := by kernel_rfl
@[go_sem] theorem y180 : isStrT Tryz.prog 82 = false := by kernel_rfl
@[go_sem] theorem y181 : isSliceT Tryz.prog 81 = true := by kernel_rfl
@[go_sem] theorem y182 : isStrT Tryz.prog 81 = false := by kernel_rfl
@[go_sem] theorem y183 : esz Tryz.prog 81 = some 1 := by kernel_rfl
@[go_sem] theorem y184 : arr Tryz.prog 81 = none := by kernel_rfl
@[go_sem] theorem y185 : tagg Tryz.prog 80 = some false := by kernel_rfl
@[go_sem] theorem y186 : tsz Tryz.prog 80 = some 1 := by kernel_rfl
@[go_sem] theorem y187 : fieldOff Tryz.prog 78 1 = some 7 := by kernel_rfl
@[go_sem] theorem y188 : tagg Tryz.prog 49 = some false := by kernel_rfl
@[go_sem] theorem y189 : tsz Tryz.prog 49 = some 1 := by kernel_rfl
@[go_sem] theorem y190 : callable Tryz.prog 35 = true := by kernel_rfl
@[go_sem] theorem y191 : fieldOff Tryz.prog 23 1 = some 1 := by kernel_rfl
@[go_sem] theorem y192 : fieldOff Tryz.prog 23 2 = some 2 := by kernel_rfl
@[go_sem] theorem y193 : callable Tryz.prog 36 = true := by kernel_rfl
@[go_sem] theorem y194 : fieldOff Tryz.prog 56 0 = some 0 := by kernel_rfl
@[go_sem] theorem y195 : fieldOff Tryz.prog 56 1 = some 1 := by kernel_rfl
@[go_sem] theorem y196 : fieldOff Tryz.prog 56 2 = some 2 := by kernel_rfl
@[go_sem] theorem y197 : callable Tryz.prog 37 = true := by kernel_rfl
@[go_sem] theorem y198 : callable Tryz.prog 38 = true := by kernel_rfl
@[go_sem] theorem y199 : callable Tryz.prog 39 = true := by kernel_rfl
@[go_sem] theorem y200 : callable Tryz.prog 40 = true := by kernel_rfl
@[go_sem] theorem y201 : arrE Tryz.prog 9 = none := by kernel_rfl
@[go_sem] theorem y202 : tagOf Tryz.prog 5 = some 0 := by kernel_rfl
@[go_sem] theorem y203 : eqOffs Tryz.prog 5 = none := by kernel_rfl
@[go_sem] theorem y204 : refT Tryz.prog 5 = none := by kernel_rfl
@[go_sem] theorem y205 : placesOf Tryz.prog 56 = some { toList := [(0, 1), (1, 1), (2, 1)] } := by kernel_rfl
@[go_sem] theorem y206 : isStructT Tryz.prog 56 = true := by kernel_rfl
@[go_sem] theorem y207 : arrE Tryz.prog 56 = none := by kernel_rfl
@[go_sem] theorem y208 : zcells Tryz.prog 92 = some [AVal.lit (Value.string { data := { toList := [] } }), AVal.lit (Value.string { data := { toList := [] } }), AVal.lit (Value.string { data := { toList := [] } }), AVal.lit (Value.string { data := { toList := [] } }), AVal.lit (Value.string { data := { toList := [] } }), AVal.lit (Value.string { data := { toList := [] } }), AVal.lit (Value.string { data := { toList := [] } }), AVal.lit (Value.string { data := { toList := [] } }), AVal.lit (Value.string { data := { toList := [] } }), AVal.lit (Value.string { data := { toList := [] } }), AVal.lit (Value.string { data := { toList := [] } }), AVal.lit (Value.string { data := { toList := [] } }), AVal.lit (Value.string { data := { toList := [] } }), AVal.lit (Value.string { data := { toList := [] } }), AVal.lit (Value.string { data := { toList := [] } }), AVal.lit (Value.string { data := { toList := [] } }), AVal.lit (Value.string { data := { toList := [] } }), AVal.lit (Value.string { data := { toList := [] } })] := by kernel_rfl
@[go_sem] theorem y209 : placesOf Tryz.prog 92 = some { toList := [(0, 1), (1, 1), (2, 1), (3, 1), (4, 1), (5, 1), (6, 1), (7, 1), (8, 1), (9, 1), (10, 1), (11, 1), (12, 1), (13, 1), (14, 1), (15, 1), (16, 1), (17, 1)] } := by kernel_rfl
@[go_sem] theorem y210 : isStructT Tryz.prog 92 = false := by kernel_rfl
@[go_sem] theorem y211 : arrE Tryz.prog 92 = some (18, 1, false) := by kernel_rfl
@[go_sem] theorem y212 : arr Tryz.prog 92 = some (18, 1) := by kernel_rfl
@[go_sem] theorem y213 : tsz Tryz.prog 92 = some 18 := by kernel_rfl
@[go_sem] theorem y214 : esz Tryz.prog 92 = none := by kernel_rfl
@[go_sem] theorem y215 : esz Tryz.prog 49 = some 3 := by kernel_rfl
@[go_sem] theorem y216 : arr Tryz.prog 49 = none := by kernel_rfl
@[go_sem] theorem y217 : tagOf Tryz.prog 26 = some 0 := by kernel_rfl
@[go_sem] theorem y218 : eqOffs Tryz.prog 26 = none := by kernel_rfl
@[go_sem] theorem y219 : refT Tryz.prog 26 = none := by kernel_rfl
@[go_sem] theorem y220 : callable Tryz.prog 42 = true := by kernel_rfl
@[go_sem] theorem y221 : callable Tryz.prog 41 = true := by kernel_rfl
@[go_sem] theorem y222 : callable Tryz.prog 43 = true := by kernel_rfl
@[go_sem] theorem y223 : tagg Tryz.prog 42 = some true := by kernel_rfl
@[go_sem] theorem y224 : arr Tryz.prog 42 = none := by kernel_rfl
@[go_sem] theorem y225 : callable Tryz.prog 44 = true := by kernel_rfl
@[go_sem] theorem y226 : callable Tryz.prog 45 = true := by kernel_rfl
@[go_sem] theorem y227 : isSliceT Tryz.prog 72 = true := by kernel_rfl
@[go_sem] theorem y228 : isStrT Tryz.prog 72 = false := by kernel_rfl
@[go_sem] theorem y229 : esz Tryz.prog 72 = some 3 := by kernel_rfl
@[go_sem] theorem y230 : arr Tryz.prog 72 = none := by kernel_rfl
@[go_sem] theorem y231 : callable Tryz.prog 46 = true := by kernel_rfl
@[go_sem] theorem y232 : ezero Tryz.prog 72 = some (3, 24, [AVal.lit (Value.int IntKind.u8 0), AVal.lit (Value.int IntKind.i64 0), AVal.lit (Value.int IntKind.i64 0)]) := by kernel_rfl
@[go_sem] theorem ap_72 {H0 : Heap} {k id : Nat} {l : List (List AVal)} {y : Option AVal} (hin : accIn H0 id 3 l) (hid : id < k) : aAppend Tryz.prog (AM.look H0) k 72 (some (accV id l)) y = appR 3 24 k id l (y.bind (aSrc (AM.look H0))) := app_acc y232 hin hid
@[go_sem] theorem ln_72 {H0 : Heap} {k id : Nat} {l : List (List AVal)} (hin : accIn H0 id 3 l) : lenO Tryz.prog (AM.look H0) k 72 (some (accV id l)) = some ⟨.lit (.int .i64 (l.length : Int)), k, [], accRds id l⟩ := len_acc (by kernel_rfl) hin
@[go_sem] theorem y233 : callable Tryz.prog 47 = true := by kernel_rfl
@[go_sem] theorem y234 : callable Tryz.prog 48 = true := by kernel_rfl
@[go_sem] theorem y235 : callable Tryz.prog 49 = true := by kernel_rfl
@[go_sem] theorem y236 : callable Tryz.prog 50 = true := by kernel_rfl
@[go_sem] theorem y237 : callable Tryz.prog 51 = true := by kernel_rfl
@[go_sem] theorem y238 : callable Tryz.prog 52 = true := by kernel_rfl
@[go_sem] theorem y239 : callable Tryz.prog 53 = true := by kernel_rfl
@[go_sem] theorem y240 : callable Tryz.prog 54 = true := by kernel_rfl
@[go_sem] theorem y241 : fieldOff Tryz.prog 78 0 = some 0 := by kernel_rfl
@[go_sem] theorem y242 : zcells Tryz.prog 3 = some [AVal.lit (Value.int IntKind.i64 0)] := by kernel_rfl
@[go_sem] theorem y243 : arr Tryz.prog 3 = none := by kernel_rfl
@[go_sem] theorem y244 : callable Tryz.prog 55 = true := by kernel_rfl
@[go_sem] theorem y245 : callable Tryz.prog 56 = true := by kernel_rfl
@[go_sem] theorem y246 : tagg Tryz.prog 40 = some true := by kernel_rfl
@[go_sem] theorem y247 : tsz Tryz.prog 40 = some 8 := by kernel_rfl
@[go_sem] theorem y248 : arr Tryz.prog 40 = none := by kernel_rfl
@[go_sem] theorem y249 : tagg Tryz.prog 38 = some false := by kernel_rfl
@[go_sem] theorem y250 : callable Tryz.prog 57 = true := by kernel_rfl
@[go_sem] theorem y251 : tagOf Tryz.prog 38 = some 0 := by kernel_rfl
@[go_sem] theorem y252 : eqOffs Tryz.prog 38 = none := by kernel_rfl
@[go_sem] theorem y253 : refT Tryz.prog 38 = none := by kernel_rfl
@[go_sem] theorem y254 : ezero Tryz.prog 105 = some (1, 8, [AVal.lit (Value.pointer none)]) := by kernel_rfl
@[go_sem] theorem ap_105 {H0 : Heap} {k id : Nat} {l : List (List AVal)} {y : Option AVal} (hin : accIn H0 id 1 l) (hid : id < k) : aAppend Tryz.prog (AM.look H0) k 105 (some (accV id l)) y = appR 1 8 k id l (y.bind (aSrc (AM.look H0))) := app_acc y254 hin hid
@[go_sem] theorem ln_105 {H0 : Heap} {k id : Nat} {l : List (List AVal)} (hin : accIn H0 id 1 l) : lenO Tryz.prog (AM.look H0) k 105 (some (accV id l)) = some ⟨.lit (.int .i64 (l.length : Int)), k, [], accRds id l⟩ := len_acc (by kernel_rfl) hin
@[go_sem] theorem y255 : zcells Tryz.prog 105 = some [AVal.lit (Value.slice none 0 0)] := by kernel_rfl
@[go_sem] theorem y256 : arr Tryz.prog 105 = none := by kernel_rfl
@[go_sem] theorem y257 : tsz Tryz.prog 105 = some 1 := by kernel_rfl
@[go_sem] theorem y258 : callable Tryz.prog 58 = true := by kernel_rfl
@[go_sem] theorem y259 : fieldOff Tryz.prog 40 5 = some 5 := by kernel_rfl
@[go_sem] theorem y260 : tagg Tryz.prog 4 = some false := by kernel_rfl
@[go_sem] theorem y261 : tsz Tryz.prog 4 = some 1 := by kernel_rfl
@[go_sem] theorem y262 : tagg Tryz.prog 105 = some false := by kernel_rfl
@[go_sem] theorem y263 : isSliceT Tryz.prog 105 = true := by kernel_rfl
@[go_sem] theorem y264 : isStrT Tryz.prog 105 = false := by kernel_rfl
@[go_sem] theorem y265 : esz Tryz.prog 105 = some 1 := by kernel_rfl
@[go_sem] theorem y266 : tagg Tryz.prog 106 = some false := by kernel_rfl
@[go_sem] theorem y267 : tsz Tryz.prog 106 = some 1 := by kernel_rfl
@[go_sem] theorem y268 : tagOf Tryz.prog 106 = none := by kernel_rfl
@[go_sem] theorem y269 : eqOffs Tryz.prog 106 = none := by kernel_rfl
@[go_sem] theorem y270 : refT Tryz.prog 106 = some 0 := by kernel_rfl
@[go_sem] theorem y271 : callable Tryz.prog 59 = true := by kernel_rfl
@[go_sem] theorem y272 : callable Tryz.prog 61 = true := by kernel_rfl
@[go_sem] theorem y273 : ikind Tryz.prog 21 = some IntKind.i32 := by kernel_rfl
@[go_sem] theorem y274 : isStrT Tryz.prog 21 = false := by kernel_rfl
@[go_sem] theorem y275 : ikind Tryz.prog 9 = none := by kernel_rfl
@[go_sem] theorem y276 : callable Tryz.prog 62 = true := by kernel_rfl
@[go_sem] theorem y277 : callable Tryz.prog 63 = true := by kernel_rfl
@[go_sem] theorem y278 : tagOf Tryz.prog 87 = none := by kernel_rfl
@[go_sem] theorem y279 : eqOffs Tryz.prog 87 = none := by kernel_rfl
@[go_sem] theorem y280 : refT Tryz.prog 87 = none := by kernel_rfl
@[go_sem] theorem y281 : callable Tryz.prog 64 = true := by kernel_rfl
@[go_sem] theorem y282 : isStrT Tryz.prog 3 = false := by kernel_rfl
@[go_sem] theorem y283 : tagg Tryz.prog 37 = some true := by kernel_rfl
@[go_sem] theorem y284 : tsz Tryz.prog 37 = some 2 := by kernel_rfl
@[go_sem] theorem y285 : arr Tryz.prog 37 = none := by kernel_rfl
@[go_sem] theorem y286 : callable Tryz.prog 65 = true := by kernel_rfl
@[go_sem] theorem y287 : callable Tryz.prog 66 = true := by kernel_rfl
@[go_sem] theorem y288 : callable Tryz.prog 67 = true := by kernel_rfl
@[go_sem] theorem y289 : callable Tryz.prog 68 = true := by kernel_rfl
@[go_sem] theorem y290 : callable Tryz.prog 69 = true := by kernel_rfl
@[go_sem] theorem y291 : callable Tryz.prog 70 = true := by kernel_rfl
@[go_sem] theorem y292 : isSliceT Tryz.prog 116 = true := by kernel_rfl
@[go_sem] theorem y293 : isStrT Tryz.prog 116 = false := by kernel_rfl
@[go_sem] theorem y294 : esz Tryz.prog 116 = some 3 := by kernel_rfl
@[go_sem] theorem y295 : arr Tryz.prog 116 = none := by kernel_rfl
@[go_sem] theorem y296 : fieldOff Tryz.prog 119 0 = some 0 := by kernel_rfl
@[go_sem] theorem y297 : callable Tryz.prog 71 = true := by kernel_rfl
@[go_sem] theorem y298 : callable Tryz.prog 72 = true := by kernel_rfl
@[go_sem] theorem y299 : callable Tryz.prog 73 = true := by kernel_rfl
@[go_sem] theorem y300 : callable Tryz.prog 74 = true := by kernel_rfl
@[go_sem] theorem y301 : callable Tryz.prog 75 = true := by kernel_rfl
@[go_sem] theorem y302 : ikind Tryz.prog 38 = some IntKind.u32 := by kernel_rfl
@[go_sem] theorem y303 : isStrT Tryz.prog 38 = false := by kernel_rfl
@[go_sem] theorem y304 : zcells Tryz.prog 126 = some [AVal.lit (Value.int IntKind.u64 0), AVal.lit (Value.int IntKind.u32 0), AVal.lit (Value.int IntKind.u32 0)] := by kernel_rfl
@[go_sem] theorem y305 : placesOf Tryz.prog 126 = some { toList := [(0, 1), (1, 1), (2, 1)] } := by kernel_rfl
@[go_sem] theorem y306 : isStructT Tryz.prog 126 = true := by kernel_rfl
@[go_sem] theorem y307 : arrE Tryz.prog 126 = none := by kernel_rfl
@[go_sem] theorem y308 : callable Tryz.prog 76 = true := by kernel_rfl
@[go_sem] theorem y309 : arr Tryz.prog 26 = none := by kernel_rfl
@[go_sem] theorem y310 : ikind Tryz.prog 129 = some IntKind.u64 := by kernel_rfl
@[go_sem] theorem y311 : isStrT Tryz.prog 129 = false := by kernel_rfl
@[go_sem] theorem y312 : callable Tryz.prog 78 = true := by kernel_rfl
@[go_sem] theorem y313 : callable Tryz.prog 77 = true := by kernel_rfl
@[go_sem] theorem y314 : callable Tryz.prog 79 = true := by kernel_rfl
@[go_sem] theorem y315 : callable Tryz.prog 80 = true := by kernel_rfl
@[go_sem] theorem y316 : callable Tryz.prog 81 = true := by kernel_rfl
@[go_sem] theorem y317 : callable Tryz.prog 82 = true := by kernel_rfl
@[go_sem] theorem y318 : ikind Tryz.prog 134 = none := by kernel_rfl
@[go_sem] theorem y319 : isStrT Tryz.prog 134 = false := by kernel_rfl
@[go_sem] theorem y320 : isSliceT Tryz.prog 134 = true := by kernel_rfl
@[go_sem] theorem y321 : esz Tryz.prog 134 = some 1 := by kernel_rfl
@[go_sem] theorem y322 : arr Tryz.prog 134 = none := by kernel_rfl
@[go_sem] theorem y323 : callable Tryz.prog 83 = true := by kernel_rfl
@[go_sem] theorem y324 : callable Tryz.prog 84 = true := by kernel_rfl
@[go_sem] theorem y325 : callable Tryz.prog 85 = true := by kernel_rfl
@[go_sem] theorem y326 : callable Tryz.prog 86 = true := by kernel_rfl
@[go_sem] theorem y327 : callable Tryz.prog 87 = true := by kernel_rfl
@[go_sem] theorem y328 : callable Tryz.prog 88 = true := by kernel_rfl
@[go_sem] theorem y329 : zcells Tryz.prog 142 = some [AVal.lit (Value.int IntKind.u64 0), AVal.lit (Value.int IntKind.u32 0), AVal.lit (Value.int IntKind.u32 0)] := by kernel_rfl
@[go_sem] theorem y330 : placesOf Tryz.prog 142 = some { toList := [(0, 1), (1, 1), (2, 1)] } := by kernel_rfl
@[go_sem] theorem y331 : isStructT Tryz.prog 142 = true := by kernel_rfl
@[go_sem] theorem y332 : arrE Tryz.prog 142 = none := by kernel_rfl
@[go_sem] theorem y333 : callable Tryz.prog 89 = true := by kernel_rfl
@[go_sem] theorem y334 : zcells Tryz.prog 119 = some [AVal.lit (Value.int IntKind.u64 0), AVal.lit (Value.int IntKind.i64 0), AVal.lit (Value.int IntKind.i64 0)] := by kernel_rfl
@[go_sem] theorem y335 : placesOf Tryz.prog 119 = some { toList := [(0, 1), (1, 1), (2, 1)] } := by kernel_rfl
@[go_sem] theorem y336 : isStructT Tryz.prog 119 = true := by kernel_rfl
@[go_sem] theorem y337 : arrE Tryz.prog 119 = none := by kernel_rfl
@[go_sem] theorem y338 : ezero Tryz.prog 116 = some (3, 24, [AVal.lit (Value.int IntKind.u64 0), AVal.lit (Value.int IntKind.i64 0), AVal.lit (Value.int IntKind.i64 0)]) := by kernel_rfl
@[go_sem] theorem ap_116 {H0 : Heap} {k id : Nat} {l : List (List AVal)} {y : Option AVal} (hin : accIn H0 id 3 l) (hid : id < k) : aAppend Tryz.prog (AM.look H0) k 116 (some (accV id l)) y = appR 3 24 k id l (y.bind (aSrc (AM.look H0))) := app_acc y338 hin hid
@[go_sem] theorem ln_116 {H0 : Heap} {k id : Nat} {l : List (List AVal)} (hin : accIn H0 id 3 l) : lenO Tryz.prog (AM.look H0) k 116 (some (accV id l)) = some ⟨.lit (.int .i64 (l.length : Int)), k, [], accRds id l⟩ := len_acc (by kernel_rfl) hin
@[go_sem] theorem y339 : callable Tryz.prog 90 = true := by kernel_rfl
@[go_sem] theorem y340 : tagOf Tryz.prog 40 = none := by kernel_rfl
@[go_sem] theorem y341 : eqOffs Tryz.prog 40 = some [(0, 0), (1, 0), (2, 0), (3, 0), (4, 0), (5, 1), (6, 0), (7, 0)] := by kernel_rfl
@[go_sem] theorem y342 : refT Tryz.prog 40 = none := by kernel_rfl
@[go_sem] theorem y343 : tagOf Tryz.prog 42 = none := by kernel_rfl
@[go_sem] theorem y344 : eqOffs Tryz.prog 42 = some [(0, 0), (1, 0), (2, 0)] := by kernel_rfl
@[go_sem] theorem y345 : refT Tryz.prog 42 = none := by kernel_rfl
@[go_sem] theorem y346 : tagOf Tryz.prog 37 = none := by kernel_rfl
@[go_sem] theorem y347 : eqOffs Tryz.prog 37 = some [(0, 0), (1, 0)] := by kernel_rfl
@[go_sem] theorem y348 : refT Tryz.prog 37 = none := by kernel_rfl
@[go_sem] theorem y349 : callable Tryz.prog 91 = true := by kernel_rfl
@[go_sem] theorem y350 : callable Tryz.prog 92 = true := by kernel_rfl
@[go_sem] theorem y351 : arr Tryz.prog 126 = none := by kernel_rfl
@[go_sem] theorem y352 : fieldOff Tryz.prog 126 2 = some 2 := by kernel_rfl
@[go_sem] theorem y353 : callable Tryz.prog 93 = true := by kernel_rfl
@[go_sem] theorem y354 : fieldOff Tryz.prog 126 1 = some 1 := by kernel_rfl
@[go_sem] theorem y355 : fieldOff Tryz.prog 126 0 = some 0 := by kernel_rfl
@[go_sem] theorem y356 : callable Tryz.prog 94 = true := by kernel_rfl
@[go_sem] theorem y357 : callable Tryz.prog 95 = true := by kernel_rfl
@[go_sem] theorem y358 : callable Tryz.prog 96 = true := by kernel_rfl
@[go_sem] theorem y359 : callable Tryz.prog 97 = true := by kernel_rfl
@[go_sem] theorem y360 : tagOf Tryz.prog 144 = some 0 := by kernel_rfl
@[go_sem] theorem y361 : eqOffs Tryz.prog 144 = none := by kernel_rfl
@[go_sem] theorem y362 : refT Tryz.prog 144 = none := by kernel_rfl
@[go_sem] theorem y363 : callable Tryz.prog 98 = true := by kernel_rfl
@[go_sem] theorem y364 : callable Tryz.prog 99 = true := by kernel_rfl
@[go_sem] theorem y365 : callable Tryz.prog 100 = true := by kernel_rfl
@[go_sem] theorem y366 : callable Tryz.prog 101 = true := by kernel_rfl
@[go_sem] theorem y367 : callable Tryz.prog 102 = true := by kernel_rfl
@[go_sem] theorem y368 : callable Tryz.prog 103 = true := by kernel_rfl
@[go_sem] theorem y369 : callable Tryz.prog 104 = true := by kernel_rfl
@[go_sem] theorem y370 : zcells Tryz.prog 153 = some [AVal.lit (Value.int IntKind.u8 0), AVal.lit (Value.int IntKind.u8 0), AVal.lit (Value.int IntKind.u8 0), AVal.lit (Value.int IntKind.u8 0), AVal.lit (Value.int IntKind.u8 0), AVal.lit (Value.int IntKind.u8 0), AVal.lit (Value.int IntKind.u8 0), AVal.lit (Value.int IntKind.u8 0), AVal.lit (Value.int IntKind.u8 0), AVal.lit (Value.int IntKind.u8 0), AVal.lit (Value.int IntKind.u8 0), AVal.lit (Value.int IntKind.u8 0), AVal.lit (Value.int IntKind.u8 0), AVal.lit (Value.int IntKind.u8 0), AVal.lit (Value.int IntKind.u8 0), AVal.lit (Value.int IntKind.u8 0), AVal.lit (Value.int IntKind.u8 0), AVal.lit (Value.int IntKind.u8 0), AVal.lit (Value.int IntKind.u8 0), AVal.lit (Value.int IntKind.u8 0), AVal.lit (Value.int IntKind.u8 0), AVal.lit (Value.int IntKind.u8 0), AVal.lit (Value.int IntKind.u8 0), AVal.lit (Value.int IntKind.u8 0)] := by kernel_rfl
@[go_sem] theorem y371 : arr Tryz.prog 153 = some (24, 1) := by kernel_rfl
@[go_sem] theorem y372 : ikind Tryz.prog 2 = some IntKind.i64 := by kernel_rfl
@[go_sem] theorem y373 : ikind Tryz.prog 26 = some IntKind.u64 := by kernel_rfl
@[go_sem] theorem y374 : isStrT Tryz.prog 26 = false := by kernel_rfl
@[go_sem] theorem y375 : callable Tryz.prog 105 = true := by kernel_rfl
@[go_sem] theorem y376 : esz Tryz.prog 153 = none := by kernel_rfl
@[go_sem] theorem y377 : isStrT Tryz.prog 153 = false := by kernel_rfl
@[go_sem] theorem y378 : callable Tryz.prog 106 = true := by kernel_rfl
@[go_sem] theorem y379 : callable Tryz.prog 107 = true := by kernel_rfl
@[go_sem] theorem y380 : callable Tryz.prog 108 = true := by kernel_rfl
@[go_sem] theorem y381 : callable Tryz.prog 109 = true := by kernel_rfl
@[go_sem] theorem y382 : callable Tryz.prog 110 = false := by kernel_rfl
@[go_sem] theorem y383 : callable Tryz.prog 111 = true := by kernel_rfl
@[go_sem] theorem y384 : callable Tryz.prog 112 = true := by kernel_rfl
@[go_sem] theorem y385 : isStrT Tryz.prog 2 = false := by kernel_rfl
@[go_sem] theorem y386 : callable Tryz.prog 113 = true := by kernel_rfl
@[go_sem] theorem y387 : tagg Tryz.prog 87 = some false := by kernel_rfl
@[go_sem] theorem y388 : tsz Tryz.prog 87 = some 1 := by kernel_rfl
@[go_sem] theorem y389 : zcells Tryz.prog 165 = some [AVal.lit (Value.string { data := { toList := [] } }), AVal.lit (Value.string { data := { toList := [] } }), AVal.lit Value.nilIface] := by kernel_rfl
@[go_sem] theorem y390 : placesOf Tryz.prog 165 = some { toList := [(0, 1), (1, 1), (2, 1)] } := by kernel_rfl
@[go_sem] theorem y391 : isStructT Tryz.prog 165 = true := by kernel_rfl
@[go_sem] theorem y392 : arrE Tryz.prog 165 = none := by kernel_rfl
@[go_sem] theorem y393 : arr Tryz.prog 165 = none := by kernel_rfl
@[go_sem] theorem y394 : callable Tryz.prog 114 = true := by kernel_rfl
@[go_sem] theorem y395 : arr Tryz.prog 142 = none := by kernel_rfl
@[go_sem] theorem y396 : fieldOff Tryz.prog 142 2 = some 2 := by kernel_rfl
@[go_sem] theorem y397 : fieldOff Tryz.prog 142 1 = some 1 := by kernel_rfl
@[go_sem] theorem y398 : fieldOff Tryz.prog 142 0 = some 0 := by kernel_rfl
@[go_sem] theorem y399 : callable Tryz.prog 115 = true := by kernel_rfl
@[go_sem] theorem y400 : callable Tryz.prog 116 = true := by kernel_rfl
@[go_sem] theorem y401 : ikind Tryz.prog 170 = some IntKind.u64 := by kernel_rfl
@[go_sem] theorem y402 : isStrT Tryz.prog 170 = false := by kernel_rfl
@[go_sem] theorem y403 : zcells Tryz.prog 170 = some [AVal.lit (Value.int IntKind.u64 0)] := by kernel_rfl
@[go_sem] theorem y404 : arr Tryz.prog 170 = none := by kernel_rfl
@[go_sem] theorem y405 : tsz Tryz.prog 170 = some 1 := by kernel_rfl
@[go_sem] theorem y406 : callable Tryz.prog 117 = true := by kernel_rfl
@[go_sem] theorem y407 : callable Tryz.prog 118 = true := by kernel_rfl
@[go_sem] theorem y408 : callable Tryz.prog 119 = true := by kernel_rfl
@[go_sem] theorem y409 : callable Tryz.prog 120 = true := by kernel_rfl
@[go_sem] theorem y410 : callable Tryz.prog 121 = true := by kernel_rfl
@[go_sem] theorem y411 : esz Tryz.prog 178 = none := by kernel_rfl
@[go_sem] theorem y412 : arr Tryz.prog 178 = some (20, 1) := by kernel_rfl
@[go_sem] theorem y413 : callable Tryz.prog 122 = true := by kernel_rfl
@[go_sem] theorem y414 : zcells Tryz.prog 179 = some [AVal.lit (Value.int IntKind.u8 0), AVal.lit (Value.int IntKind.u8 0), AVal.lit (Value.int IntKind.u8 0), AVal.lit (Value.int IntKind.u8 0), AVal.lit (Value.int IntKind.u8 0), AVal.lit (Value.int IntKind.u8 0), AVal.lit (Value.int IntKind.u8 0), AVal.lit (Value.int IntKind.u8 0), AVal.lit (Value.int IntKind.u8 0), AVal.lit (Value.int IntKind.u8 0), AVal.lit (Value.int IntKind.u8 0), AVal.lit (Value.int IntKind.u8 0), AVal.lit (Value.int IntKind.u8 0), AVal.lit (Value.int IntKind.u8 0), AVal.lit (Value.int IntKind.u8 0), AVal.lit (Value.int IntKind.u8 0), AVal.lit (Value.int IntKind.u8 0), AVal.lit (Value.int IntKind.u8 0), AVal.lit (Value.int IntKind.u8 0), AVal.lit (Value.int IntKind.u8 0), AVal.lit (Value.int IntKind.u8 0), AVal.lit (Value.int IntKind.u8 0), AVal.lit (Value.int IntKind.u8 0), AVal.lit (Value.int IntKind.u8 0), AVal.lit (Value.int IntKind.u8 0), AVal.lit (Value.int IntKind.u8 0), AVal.lit (Value.int IntKind.u8 0), AVal.lit (Value.int IntKind.u8 0), AVal.lit (Value.int IntKind.u8 0), AVal.lit (Value.int IntKind.u8 0), AVal.lit (Value.int IntKind.u8 0), AVal.lit (Value.int IntKind.u8 0), AVal.lit (Value.int IntKind.u8 0), AVal.lit (Value.int IntKind.u8 0), AVal.lit (Value.int IntKind.u8 0), AVal.lit (Value.int IntKind.u8 0), AVal.lit (Value.int IntKind.u8 0), AVal.lit (Value.int IntKind.u8 0), AVal.lit (Value.int IntKind.u8 0), AVal.lit (Value.int IntKind.u8 0), AVal.lit (Value.int IntKind.u8 0), AVal.lit (Value.int IntKind.u8 0), AVal.lit (Value.int IntKind.u8 0), AVal.lit (Value.int IntKind.u8 0), AVal.lit (Value.int IntKind.u8 0), AVal.lit (Value.int IntKind.u8 0), AVal.lit (Value.int IntKind.u8 0), AVal.lit (Value.int IntKind.u8 0), AVal.lit (Value.int IntKind.u8 0), AVal.lit (Value.int IntKind.u8 0), AVal.lit (Value.int IntKind.u8 0), AVal.lit (Value.int IntKind.u8 0), AVal.lit (Value.int IntKind.u8 0), AVal.lit (Value.int IntKind.u8 0), AVal.lit (Value.int IntKind.u8 0), AVal.lit (Value.int IntKind.u8 0), AVal.lit (Value.int IntKind.u8 0), AVal.lit (Value.int IntKind.u8 0), AVal.lit (Value.int IntKind.u8 0), AVal.lit (Value.int IntKind.u8 0), AVal.lit (Value.int IntKind.u8 0), AVal.lit (Value.int IntKind.u8 0), AVal.lit (Value.int IntKind.u8 0), AVal.lit (Value.int IntKind.u8 0), AVal.lit (Value.int IntKind.u8 0)] := by kernel_rfl
@[go_sem] theorem y415 : arr Tryz.prog 179 = some (65, 1) := by kernel_rfl
@[go_sem] theorem y416 : callable Tryz.prog 123 = true := by kernel_rfl
@[go_sem] theorem y417 : callable Tryz.prog 124 = true := by kernel_rfl
@[go_sem] theorem y418 : esz Tryz.prog 179 = none := by kernel_rfl
@[go_sem] theorem y419 : isStrT Tryz.prog 179 = false := by kernel_rfl
@[go_sem] theorem y420 : ezero Tryz.prog 134 = some (1, 1, [AVal.lit (Value.int IntKind.u8 0)]) := by kernel_rfl
@[go_sem] theorem ap_134 {H0 : Heap} {k id : Nat} {l : List (List AVal)} {y : Option AVal} (hin : accIn H0 id 1 l) (hid : id < k) : aAppend Tryz.prog (AM.look H0) k 134 (some (accV id l)) y = appR 1 1 k id l (y.bind (aSrc (AM.look H0))) := app_acc y420 hin hid
@[go_sem] theorem ln_134 {H0 : Heap} {k id : Nat} {l : List (List AVal)} (hin : accIn H0 id 1 l) : lenO Tryz.prog (AM.look H0) k 134 (some (accV id l)) = some ⟨.lit (.int .i64 (l.length : Int)), k, [], accRds id l⟩ := len_acc (by kernel_rfl) hin
@[go_sem] theorem y421 : callable Tryz.prog 125 = true := by kernel_rfl
@[go_sem] theorem y422 : callable Tryz.prog 126 = true := by kernel_rfl
@[go_sem] theorem y423 : callable Tryz.prog 127 = false := by kernel_rfl
@[go_sem] theorem y424 : callable Tryz.prog 128 = true := by kernel_rfl
@[go_sem] theorem y425 : callable Tryz.prog 129 = true := by kernel_rfl
@[go_sem] theorem y426 : callable Tryz.prog 130 = true := by kernel_rfl
@[go_sem] theorem y427 : callable Tryz.prog 131 = true := by kernel_rfl
@[go_sem] theorem y428 : zcells Tryz.prog 185 = some [AVal.lit (Value.string { data := { toList := [] } })] := by kernel_rfl
@[go_sem] theorem y429 : placesOf Tryz.prog 185 = some { toList := [(0, 1)] } := by kernel_rfl
@[go_sem] theorem y430 : isStructT Tryz.prog 185 = true := by kernel_rfl
@[go_sem] theorem y431 : arrE Tryz.prog 185 = none := by kernel_rfl
@[go_sem] theorem y432 : arr Tryz.prog 185 = none := by kernel_rfl
@[go_sem] theorem y433 : callable Tryz.prog 132 = true := by kernel_rfl
@[go_sem] theorem y434 : tagg Tryz.prog 170 = some false := by kernel_rfl
@[go_sem] theorem y435 : callable Tryz.prog 133 = true := by kernel_rfl
@[go_sem] theorem y436 : callable Tryz.prog 134 = true := by kernel_rfl
@[go_sem] theorem y437 : callable Tryz.prog 135 = true := by kernel_rfl
@[go_sem] theorem y438 : esz Tryz.prog 188 = none := by kernel_rfl
@[go_sem] theorem y439 : arr Tryz.prog 188 = some (256, 1) := by kernel_rfl
@[go_sem] theorem y440 : esz Tryz.prog 191 = none := by kernel_rfl
@[go_sem] theorem y441 : arr Tryz.prog 191 = some (16, 2) := by kernel_rfl
@[go_sem] theorem y442 : tagg Tryz.prog 190 = some true := by kernel_rfl
@[go_sem] theorem y443 : tsz Tryz.prog 190 = some 2 := by kernel_rfl
@[go_sem] theorem y444 : zcells Tryz.prog 190 = some [AVal.lit (Value.int IntKind.u8 0), AVal.lit (Value.int IntKind.u8 0)] := by kernel_rfl
@[go_sem] theorem y445 : arr Tryz.prog 190 = none := by kernel_rfl
@[go_sem] theorem y446 : fieldOff Tryz.prog 190 0 = some 0 := by kernel_rfl
@[go_sem] theorem y447 : fieldOff Tryz.prog 190 1 = some 1 := by kernel_rfl
@[go_sem] theorem y448 : callable Tryz.prog 136 = false := by kernel_rfl
@[go_sem] theorem y449 : callable Tryz.prog 137 = true := by kernel_rfl
@[go_sem] theorem y450 : tagOf Tryz.prog 21 = some 0 := by kernel_rfl
@[go_sem] theorem y451 : eqOffs Tryz.prog 21 = none := by kernel_rfl
@[go_sem] theorem y452 : refT Tryz.prog 21 = none := by kernel_rfl
@[go_sem] theorem y453 : esz Tryz.prog 194 = none := by kernel_rfl
@[go_sem] theorem y454 : arr Tryz.prog 194 = some (32, 1) := by kernel_rfl
@[go_sem] theorem y455 : esz Tryz.prog 195 = none := by kernel_rfl
@[go_sem] theorem y456 : arr Tryz.prog 195 = some (64, 1) := by kernel_rfl
@[go_sem] theorem y457 : zcells Tryz.prog 194 = some [AVal.lit (Value.int IntKind.u8 0), AVal.lit (Value.int IntKind.u8 0), AVal.lit (Value.int IntKind.u8 0), AVal.lit (Value.int IntKind.u8 0), AVal.lit (Value.int IntKind.u8 0), AVal.lit (Value.int IntKind.u8 0), AVal.lit (Value.int IntKind.u8 0), AVal.lit (Value.int IntKind.u8 0), AVal.lit (Value.int IntKind.u8 0), AVal.lit (Value.int IntKind.u8 0), AVal.lit (Value.int IntKind.u8 0), AVal.lit (Value.int IntKind.u8 0), AVal.lit (Value.int IntKind.u8 0), AVal.lit (Value.int IntKind.u8 0), AVal.lit (Value.int IntKind.u8 0), AVal.lit (Value.int IntKind.u8 0), AVal.lit (Value.int IntKind.u8 0), AVal.lit (Value.int IntKind.u8 0), AVal.lit (Value.int IntKind.u8 0), AVal.lit (Value.int IntKind.u8 0), AVal.lit (Value.int IntKind.u8 0), AVal.lit (Value.int IntKind.u8 0), AVal.lit (Value.int IntKind.u8 0), AVal.lit (Value.int IntKind.u8 0), AVal.lit (Value.int IntKind.u8 0), AVal.lit (Value.int IntKind.u8 0), AVal.lit (Value.int IntKind.u8 0), AVal.lit (Value.int IntKind.u8 0), AVal.lit (Value.int IntKind.u8 0), AVal.lit (Value.int IntKind.u8 0), AVal.lit (Value.int IntKind.u8 0), AVal.lit (Value.int IntKind.u8 0)] := by kernel_rfl
@[go_sem] theorem y458 : placesOf Tryz.prog 194 = some { toList := [(0, 1), (1, 1), (2, 1), (3, 1), (4, 1), (5, 1), (6, 1), (7, 1), (8, 1), (9, 1), (10, 1), (11, 1), (12, 1), (13, 1), (14, 1), (15, 1), (16, 1), (17, 1), (18, 1), (19, 1), (20, 1), (21, 1), (22, 1), (23, 1), (24, 1), (25, 1), (26, 1), (27, 1), (28, 1), (29, 1), (30, 1), (31, 1)] } := by kernel_rfl
@[go_sem] theorem y459 : isStructT Tryz.prog 194 = false := by kernel_rfl
@[go_sem] theorem y460 : arrE Tryz.prog 194 = some (32, 1, false) := by kernel_rfl
@[go_sem] theorem y461 : tsz Tryz.prog 194 = some 32 := by kernel_rfl
@[go_sem] theorem y462 : zcells Tryz.prog 195 = some [AVal.lit (Value.int IntKind.u8 0), AVal.lit (Value.int IntKind.u8 0), AVal.lit (Value.int IntKind.u8 0), AVal.lit (Value.int IntKind.u8 0), AVal.lit (Value.int IntKind.u8 0), AVal.lit (Value.int IntKind.u8 0), AVal.lit (Value.int IntKind.u8 0), AVal.lit (Value.int IntKind.u8 0), AVal.lit (Value.int IntKind.u8 0), AVal.lit (Value.int IntKind.u8 0), AVal.lit (Value.int IntKind.u8 0), AVal.lit (Value.int IntKind.u8 0), AVal.lit (Value.int IntKind.u8 0), AVal.lit (Value.int IntKind.u8 0), AVal.lit (Value.int IntKind.u8 0), AVal.lit (Value.int IntKind.u8 0), AVal.lit (Value.int IntKind.u8 0), AVal.lit (Value.int IntKind.u8 0), AVal.lit (Value.int IntKind.u8 0), AVal.lit (Value.int IntKind.u8 0), AVal.lit (Value.int IntKind.u8 0), AVal.lit (Value.int IntKind.u8 0), AVal.lit (Value.int IntKind.u8 0), AVal.lit (Value.int IntKind.u8 0), AVal.lit (Value.int IntKind.u8 0), AVal.lit (Value.int IntKind.u8 0), AVal.lit (Value.int IntKind.u8 0), AVal.lit (Value.int IntKind.u8 0), AVal.lit (Value.int IntKind.u8 0), AVal.lit (Value.int IntKind.u8 0), AVal.lit (Value.int IntKind.u8 0), AVal.lit (Value.int IntKind.u8 0), AVal.lit (Value.int IntKind.u8 0), AVal.lit (Value.int IntKind.u8 0), AVal.lit (Value.int IntKind.u8 0), AVal.lit (Value.int IntKind.u8 0), AVal.lit (Value.int IntKind.u8 0), AVal.lit (Value.int IntKind.u8 0), AVal.lit (Value.int IntKind.u8 0), AVal.lit (Value.int IntKind.u8 0), AVal.lit (Value.int IntKind.u8 0), AVal.lit (Value.int IntKind.u8 0), AVal.lit (Value.int IntKind.u8 0), AVal.lit (Value.int IntKind.u8 0), AVal.lit (Value.int IntKind.u8 0), AVal.lit (Value.int IntKind.u8 0), AVal.lit (Value.int IntKind.u8 0), AVal.lit (Value.int IntKind.u8 0), AVal.lit (Value.int IntKind.u8 0), AVal.lit (Value.int IntKind.u8 0), AVal.lit (Value.int IntKind.u8 0), AVal.lit (Value.int IntKind.u8 0), AVal.lit (Value.int IntKind.u8 0), AVal.lit (Value.int IntKind.u8 0), AVal.lit (Value.int IntKind.u8 0), AVal.lit (Value.int IntKind.u8 0), AVal.lit (Value.int IntKind.u8 0), AVal.lit (Value.int IntKind.u8 0), AVal.lit (Value.int IntKind.u8 0), AVal.lit (Value.int IntKind.u8 0), AVal.lit (Value.int IntKind.u8 0), AVal.lit (Value.int IntKind.u8 0), AVal.lit (Value.int IntKind.u8 0), AVal.lit (Value.int IntKind.u8 0)] := by kernel_rfl
@[go_sem] theorem y463 : placesOf Tryz.prog 195 = some { toList := [(0, 1), (1, 1), (2, 1), (3, 1), (4, 1), (5, 1), (6, 1), (7, 1), (8, 1), (9, 1), (10, 1), (11, 1), (12, 1), (13, 1), (14, 1), (15, 1), (16, 1), (17, 1), (18, 1), (19, 1), (20, 1), (21, 1), (22, 1), (23, 1), (24, 1), (25, 1), (26, 1), (27, 1), (28, 1), (29, 1), (30, 1), (31, 1), (32, 1), (33, 1), (34, 1), (35, 1), (36, 1), (37, 1), (38, 1), (39, 1), (40, 1), (41, 1), (42, 1), (43, 1), (44, 1), (45, 1), (46, 1), (47, 1), (48, 1), (49, 1), (50, 1), (51, 1), (52, 1), (53, 1), (54, 1), (55, 1), (56, 1), (57, 1), (58, 1), (59, 1), (60, 1), (61, 1), (62, 1), (63, 1)] } := by kernel_rfl
@[go_sem] theorem y464 : isStructT Tryz.prog 195 = false := by kernel_rfl
@[go_sem] theorem y465 : arrE Tryz.prog 195 = some (64, 1, false) := by kernel_rfl
@[go_sem] theorem y466 : tsz Tryz.prog 195 = some 64 := by kernel_rfl
@[go_sem] theorem y467 : zcells Tryz.prog 178 = some [AVal.lit (Value.int IntKind.u64 0), AVal.lit (Value.int IntKind.u64 0), AVal.lit (Value.int IntKind.u64 0), AVal.lit (Value.int IntKind.u64 0), AVal.lit (Value.int IntKind.u64 0), AVal.lit (Value.int IntKind.u64 0), AVal.lit (Value.int IntKind.u64 0), AVal.lit (Value.int IntKind.u64 0), AVal.lit (Value.int IntKind.u64 0), AVal.lit (Value.int IntKind.u64 0), AVal.lit (Value.int IntKind.u64 0), AVal.lit (Value.int IntKind.u64 0), AVal.lit (Value.int IntKind.u64 0), AVal.lit (Value.int IntKind.u64 0), AVal.lit (Value.int IntKind.u64 0), AVal.lit (Value.int IntKind.u64 0), AVal.lit (Value.int IntKind.u64 0), AVal.lit (Value.int IntKind.u64 0), AVal.lit (Value.int IntKind.u64 0), AVal.lit (Value.int IntKind.u64 0)] := by kernel_rfl
@[go_sem] theorem y468 : placesOf Tryz.prog 178 = some { toList := [(0, 1), (1, 1), (2, 1), (3, 1), (4, 1), (5, 1), (6, 1), (7, 1), (8, 1), (9, 1), (10, 1), (11, 1), (12, 1), (13, 1), (14, 1), (15, 1), (16, 1), (17, 1), (18, 1), (19, 1)] } := by kernel_rfl
@[go_sem] theorem y469 : isStructT Tryz.prog 178 = false := by kernel_rfl
@[go_sem] theorem y470 : arrE Tryz.prog 178 = some (20, 1, false) := by kernel_rfl
@[go_sem] theorem y471 : tsz Tryz.prog 178 = some 20 := by kernel_rfl
@[go_sem] theorem y472 : placesOf Tryz.prog 190 = some { toList := [(0, 1), (1, 1)] } := by kernel_rfl
@[go_sem] theorem y473 : isStructT Tryz.prog 190 = true := by kernel_rfl
@[go_sem] theorem y474 : arrE Tryz.prog 190 = none := by kernel_rfl
@[go_sem] theorem y475 : zcells Tryz.prog 191 = some [AVal.lit (Value.int IntKind.u8 0), AVal.lit (Value.int IntKind.u8 0), AVal.lit (Value.int IntKind.u8 0), AVal.lit (Value.int IntKind.u8 0), AVal.lit (Value.int IntKind.u8 0), AVal.lit (Value.int IntKind.u8 0), AVal.lit (Value.int IntKind.u8 0), AVal.lit (Value.int IntKind.u8 0), AVal.lit (Value.int IntKind.u8 0), AVal.lit (Value.int IntKind.u8 0), AVal.lit (Value.int IntKind.u8 0), AVal.lit (Value.int IntKind.u8 0), AVal.lit (Value.int IntKind.u8 0), AVal.lit (Value.int IntKind.u8 0), AVal.lit (Value.int IntKind.u8 0), AVal.lit (Value.int IntKind.u8 0), AVal.lit (Value.int IntKind.u8 0), AVal.lit (Value.int IntKind.u8 0), AVal.lit (Value.int IntKind.u8 0), AVal.lit (Value.int IntKind.u8 0), AVal.lit (Value.int IntKind.u8 0), AVal.lit (Value.int IntKind.u8 0), AVal.lit (Value.int IntKind.u8 0), AVal.lit (Value.int IntKind.u8 0), AVal.lit (Value.int IntKind.u8 0), AVal.lit (Value.int IntKind.u8 0), AVal.lit (Value.int IntKind.u8 0), AVal.lit (Value.int IntKind.u8 0), AVal.lit (Value.int IntKind.u8 0), AVal.lit (Value.int IntKind.u8 0), AVal.lit (Value.int IntKind.u8 0), AVal.lit (Value.int IntKind.u8 0)] := by kernel_rfl
@[go_sem] theorem y476 : placesOf Tryz.prog 191 = some { toList := [(0, 2), (2, 2), (4, 2), (6, 2), (8, 2), (10, 2), (12, 2), (14, 2), (16, 2), (18, 2), (20, 2), (22, 2), (24, 2), (26, 2), (28, 2), (30, 2)] } := by kernel_rfl
@[go_sem] theorem y477 : isStructT Tryz.prog 191 = false := by kernel_rfl
@[go_sem] theorem y478 : arrE Tryz.prog 191 = some (16, 2, true) := by kernel_rfl
@[go_sem] theorem y479 : tsz Tryz.prog 191 = some 32 := by kernel_rfl
@[go_sem] theorem res_7 : Tryz.f7.results.toList = [.cell 2 34] := by kernel_rfl
@[go_sem] theorem res_8 : Tryz.f8.results.toList = [.cell 4 34] := by kernel_rfl
@[go_sem] theorem res_15 : Tryz.f15.results.toList = [.cell 2 23, .tmp 3] := by kernel_rfl
@[go_sem] theorem res_16 : Tryz.f16.results.toList = [.cell 2 56, .tmp 3] := by kernel_rfl
@[go_sem] theorem res_20 : Tryz.f20.results.toList = [.cell 0 34] := by kernel_rfl
@[go_sem] theorem res_22 : Tryz.f22.results.toList = [.cell 2 34] := by kernel_rfl
@[go_sem] theorem res_23 : Tryz.f23.results.toList = [.cell 2 34] := by kernel_rfl
@[go_sem] theorem res_44 : Tryz.f44.results.toList = [.cell 2 29] := by kernel_rfl
end Go.AM
end

section
set_option linter.unusedVariables false
set_option linter.unusedSimpArgs false
namespace Go.Proofs
open Go.Shelf
def Tryz.layItoa_ren : Go.Shelf.Ren := ⟨fun | 171 => 36 | 243 => 61 | 246 => 79 | 283 => 104 | 284 => 105 | 285 => 106 | 286 => 107 | 129 => 103 | 317 => 121 | 318 => 122 | 319 => 123 | 320 => 124 | 337 => 134 | 338 => 135 | n => n, fun | 3 => 3 | 9 => 9 | 2 => 2 | 4 => 4 | 171 => 153 | 0 => 0 | 53 => 26 | 37 => 134 | 5 => 5 | 173 => 155 | 212 => 178 | 51 => 38 | 20 => 20 | 213 => 179 | 46 => 129 | 232 => 194 | 233 => 195 | n => n, fun | 17 => 2 | 18 => 6 | 19 => 7 | n => n⟩
theorem Tryz.layItoa : Go.Proofs.LaysM.n171 Tryz.prog Tryz.layItoa_ren := {
  mixed := by kernel_rfl
  f129 := Tryz.func103.trans (congrArg some (by kernel_rfl))
  f171 := Tryz.func36.trans (congrArg some (by kernel_rfl))
  f243 := Tryz.func61.trans (congrArg some (by kernel_rfl))
  f246 := Tryz.func79.trans (congrArg some (by kernel_rfl))
  f283 := Tryz.func104.trans (congrArg some (by kernel_rfl))
  f284 := Tryz.func105.trans (congrArg some (by kernel_rfl))
  f285 := Tryz.func106.trans (congrArg some (by kernel_rfl))
  f286 := Tryz.func107.trans (congrArg some (by kernel_rfl))
  f317 := Tryz.func121.trans (congrArg some (by kernel_rfl))
  f318 := Tryz.func122.trans (congrArg some (by kernel_rfl))
  f319 := Tryz.func123.trans (congrArg some (by kernel_rfl))
  f320 := Tryz.func124.trans (congrArg some (by kernel_rfl))
  f337 := Tryz.func134.trans (congrArg some (by kernel_rfl))
  f338 := Tryz.func135.trans (congrArg some (by kernel_rfl))
  t0 := Tryz.underlying0
  a0 := Tryz.isAgg0
  z0 := Tryz.sizeOf0
  v0 := Tryz.zeroValue0
  t2 := Tryz.underlying2
  a2 := Tryz.isAgg2
  z2 := Tryz.sizeOf2
  v2 := Tryz.zeroValue2
  t3 := Tryz.underlying3
  a3 := Tryz.isAgg3
  z3 := Tryz.sizeOf3
  v3 := Tryz.zeroValue3
  t4 := Tryz.underlying4
  a4 := Tryz.isAgg4
  z4 := Tryz.sizeOf4
  v4 := Tryz.zeroValue4
  t5 := Tryz.underlying5
  a5 := Tryz.isAgg5
  z5 := Tryz.sizeOf5
  v5 := Tryz.zeroValue5
  t9 := Tryz.underlying9
  a9 := Tryz.isAgg9
  z9 := Tryz.sizeOf9
  v9 := Tryz.zeroValue9
  t20 := Tryz.underlying20
  a20 := Tryz.isAgg20
  z20 := Tryz.sizeOf20
  v20 := Tryz.zeroValue20
  t37 := Tryz.underlying134
  a37 := Tryz.isAgg134
  z37 := Tryz.sizeOf134
  v37 := Tryz.zeroValue134
  t46 := Tryz.underlying129
  a46 := Tryz.isAgg129
  z46 := Tryz.sizeOf129
  v46 := Tryz.zeroValue129
  t51 := Tryz.underlying38
  a51 := Tryz.isAgg38
  z51 := Tryz.sizeOf38
  v51 := Tryz.zeroValue38
  t53 := Tryz.underlying26
  a53 := Tryz.isAgg26
  z53 := Tryz.sizeOf26
  v53 := Tryz.zeroValue26
  t171 := Tryz.underlying153
  a171 := Tryz.isAgg153
  z171 := Tryz.sizeOf153
  v171 := Tryz.zeroValue153
  t173 := Tryz.underlying155
  a173 := Tryz.isAgg155
  z173 := Tryz.sizeOf155
  v173 := Tryz.zeroValue155
  t212 := Tryz.underlying178
  a212 := Tryz.isAgg178
  z212 := Tryz.sizeOf178
  v212 := Tryz.zeroValue178
  t213 := Tryz.underlying179
  a213 := Tryz.isAgg179
  z213 := Tryz.sizeOf179
  t232 := Tryz.underlying194
  a232 := Tryz.isAgg194
  z232 := Tryz.sizeOf194
  v232 := Tryz.zeroValue194
  t233 := Tryz.underlying195
  a233 := Tryz.isAgg195
  z233 := Tryz.sizeOf195
  v233 := Tryz.zeroValue195
  g17 := by kernel_rfl
  g18 := by kernel_rfl
  g19 := by kernel_rfl
  i0 := by kernel_rfl
  i2 := by kernel_rfl
  i3 := by kernel_rfl
  i4 := by kernel_rfl
  i5 := by kernel_rfl
  i9 := by kernel_rfl
  i20 := by kernel_rfl
  i37 := by kernel_rfl
  i46 := by kernel_rfl
  i51 := by kernel_rfl
  i53 := by kernel_rfl
  i171 := by kernel_rfl
  i173 := by kernel_rfl
  i212 := by kernel_rfl
  i232 := by kernel_rfl
  i233 := by kernel_rfl
  m17 := by kernel_rfl
  m18 := by kernel_rfl
  m19 := by kernel_rfl }
def Tryz.layAtoi_ren : Go.Shelf.Ren := ⟨fun | 172 => 39 | 244 => 63 | 245 => 64 | 247 => 83 | 279 => 84 | 280 => 85 | 281 => 86 | 282 => 87 | 287 => 112 | 316 => 113 | 171 => 36 | 205 => 114 | 321 => 130 | 322 => 131 | 243 => 61 | 246 => 79 | 283 => 104 | 284 => 105 | 285 => 106 | 286 => 107 | 129 => 103 | 317 => 121 | 318 => 122 | 319 => 123 | 320 => 124 | 337 => 134 | 338 => 135 | n => n, fun | 9 => 9 | 3 => 3 | 75 => 87 | 76 => 88 | 4 => 4 | 5 => 5 | 167 => 133 | 37 => 134 | 0 => 0 | 85 => 135 | 2 => 2 | 168 => 137 | 53 => 26 | 175 => 161 | 46 => 129 | 210 => 165 | 127 => 182 | 145 => 185 | 143 => 183 | 21 => 21 | 171 => 153 | 173 => 155 | 212 => 178 | 51 => 38 | 20 => 20 | 213 => 179 | 232 => 194 | 233 => 195 | 80 => 196 | n => n, fun | 15 => 0 | 16 => 1 | 17 => 2 | 18 => 6 | 19 => 7 | n => n⟩
theorem Tryz.layAtoi : Go.Proofs.LaysC.n172 Tryz.prog Tryz.layAtoi_ren := {
  mixed := by kernel_rfl
  f129 := Tryz.func103.trans (congrArg some (by kernel_rfl))
  f171 := Tryz.func36.trans (congrArg some (by kernel_rfl))
  f172 := Tryz.func39.trans (congrArg some (by kernel_rfl))
  f205 := Tryz.func114.trans (congrArg some (by kernel_rfl))
  f243 := Tryz.func61.trans (congrArg some (by kernel_rfl))
  f244 := Tryz.func63.trans (congrArg some (by kernel_rfl))
  f245 := Tryz.func64.trans (congrArg some (by kernel_rfl))
  f246 := Tryz.func79.trans (congrArg some (by kernel_rfl))
  f247 := Tryz.func83.trans (congrArg some (by kernel_rfl))
  f279 := Tryz.func84.trans (congrArg some (by kernel_rfl))
  f280 := Tryz.func85.trans (congrArg some (by kernel_rfl))
  f281 := Tryz.func86.trans (congrArg some (by kernel_rfl))
  f282 := Tryz.func87.trans (congrArg some (by kernel_rfl))
  f283 := Tryz.func104.trans (congrArg some (by kernel_rfl))
  f284 := Tryz.func105.trans (congrArg some (by kernel_rfl))
  f285 := Tryz.func106.trans (congrArg some (by kernel_rfl))
  f286 := Tryz.func107.trans (congrArg some (by kernel_rfl))
  f287 := Tryz.func112.trans (congrArg some (by kernel_rfl))
  f316 := Tryz.func113.trans (congrArg some (by kernel_rfl))
  f317 := Tryz.func121.trans (congrArg some (by kernel_rfl))
  f318 := Tryz.func122.trans (congrArg some (by kernel_rfl))
  f319 := Tryz.func123.trans (congrArg some (by kernel_rfl))
  f320 := Tryz.func124.trans (congrArg some (by kernel_rfl))
  f321 := Tryz.func130.trans (congrArg some (by kernel_rfl))
  f322 := Tryz.func131.trans (congrArg some (by kernel_rfl))
  f337 := Tryz.func134.trans (congrArg some (by kernel_rfl))
  f338 := Tryz.func135.trans (congrArg some (by kernel_rfl))
  t0 := Tryz.underlying0
  a0 := Tryz.isAgg0
  z0 := Tryz.sizeOf0
  v0 := Tryz.zeroValue0
  t2 := Tryz.underlying2
  a2 := Tryz.isAgg2
  z2 := Tryz.sizeOf2
  v2 := Tryz.zeroValue2
  t3 := Tryz.underlying3
  a3 := Tryz.isAgg3
  z3 := Tryz.sizeOf3
  v3 := Tryz.zeroValue3
  t4 := Tryz.underlying4
  a4 := Tryz.isAgg4
  z4 := Tryz.sizeOf4
  v4 := Tryz.zeroValue4
  t5 := Tryz.underlying5
  a5 := Tryz.isAgg5
  z5 := Tryz.sizeOf5
  v5 := Tryz.zeroValue5
  t9 := Tryz.underlying9
  a9 := Tryz.isAgg9
  z9 := Tryz.sizeOf9
  v9 := Tryz.zeroValue9
  t20 := Tryz.underlying20
  a20 := Tryz.isAgg20
  z20 := Tryz.sizeOf20
  v20 := Tryz.zeroValue20
  t21 := Tryz.underlying21
  a21 := Tryz.isAgg21
  z21 := Tryz.sizeOf21
  v21 := Tryz.zeroValue21
  t37 := Tryz.underlying134
  a37 := Tryz.isAgg134
  z37 := Tryz.sizeOf134
  v37 := Tryz.zeroValue134
  t46 := Tryz.underlying129
  a46 := Tryz.isAgg129
  z46 := Tryz.sizeOf129
  v46 := Tryz.zeroValue129
  t51 := Tryz.underlying38
  a51 := Tryz.isAgg38
  z51 := Tryz.sizeOf38
  v51 := Tryz.zeroValue38
  t53 := Tryz.underlying26
  a53 := Tryz.isAgg26
  z53 := Tryz.sizeOf26
  v53 := Tryz.zeroValue26
  t75 := Tryz.underlying87
  a75 := Tryz.isAgg87
  z75 := Tryz.sizeOf87
  v75 := Tryz.zeroValue87
  t76 := Tryz.underlying88
  a76 := Tryz.isAgg88
  z76 := Tryz.sizeOf88
  v76 := Tryz.zeroValue88
  t85 := Tryz.underlying135
  a85 := Tryz.isAgg135
  z85 := Tryz.sizeOf135
  v85 := Tryz.zeroValue135
  t127 := Tryz.underlying182
  a127 := Tryz.isAgg182
  z127 := Tryz.sizeOf182
  v127 := Tryz.zeroValue182
  t143 := Tryz.underlying183
  a143 := Tryz.isAgg183
  z143 := Tryz.sizeOf183
  v143 := Tryz.zeroValue183
  t145 := Tryz.underlying185
  a145 := Tryz.isAgg185
  z145 := Tryz.sizeOf185
  v145 := Tryz.zeroValue185
  t167 := Tryz.underlying133
  a167 := Tryz.isAgg133
  z167 := Tryz.sizeOf133
  v167 := Tryz.zeroValue133
  t168 := Tryz.underlying137
  a168 := Tryz.isAgg137
  z168 := Tryz.sizeOf137
  v168 := Tryz.zeroValue137
  t171 := Tryz.underlying153
  a171 := Tryz.isAgg153
  z171 := Tryz.sizeOf153
  v171 := Tryz.zeroValue153
  t173 := Tryz.underlying155
  a173 := Tryz.isAgg155
  z173 := Tryz.sizeOf155
  v173 := Tryz.zeroValue155
  t175 := Tryz.underlying161
  a175 := Tryz.isAgg161
  z175 := Tryz.sizeOf161
  v175 := Tryz.zeroValue161
  t210 := Tryz.underlying165
  a210 := Tryz.isAgg165
  z210 := Tryz.sizeOf165
  v210 := Tryz.zeroValue165
  t212 := Tryz.underlying178
  a212 := Tryz.isAgg178
  z212 := Tryz.sizeOf178
  v212 := Tryz.zeroValue178
  t213 := Tryz.underlying179
  a213 := Tryz.isAgg179
  z213 := Tryz.sizeOf179
  t232 := Tryz.underlying194
  a232 := Tryz.isAgg194
  z232 := Tryz.sizeOf194
  v232 := Tryz.zeroValue194
  t233 := Tryz.underlying195
  a233 := Tryz.isAgg195
  z233 := Tryz.sizeOf195
  v233 := Tryz.zeroValue195
  g15 := by kernel_rfl
  g16 := by kernel_rfl
  g17 := by kernel_rfl
  g18 := by kernel_rfl
  g19 := by kernel_rfl
  t80 := Tryz.underlying196
  a80 := Tryz.isAgg196
  z80 := Tryz.sizeOf196
  v80 := Tryz.zeroValue196
  i0 := by kernel_rfl
  i2 := by kernel_rfl
  i3 := by kernel_rfl
  i4 := by kernel_rfl
  i5 := by kernel_rfl
  i9 := by kernel_rfl
  i20 := by kernel_rfl
  i21 := by kernel_rfl
  i37 := by kernel_rfl
  i46 := by kernel_rfl
  i51 := by kernel_rfl
  i53 := by kernel_rfl
  i75 := by kernel_rfl
  i76 := by kernel_rfl
  i80 := by kernel_rfl
  i85 := by kernel_rfl
  i127 := by kernel_rfl
  i143 := by kernel_rfl
  i145 := by kernel_rfl
  i167 := by kernel_rfl
  i168 := by kernel_rfl
  i171 := by kernel_rfl
  i173 := by kernel_rfl
  i175 := by kernel_rfl
  i210 := by kernel_rfl
  i212 := by kernel_rfl
  i232 := by kernel_rfl
  i233 := by kernel_rfl
  m15 := by kernel_rfl
  m16 := by kernel_rfl
  m17 := by kernel_rfl
  m18 := by kernel_rfl
  m19 := by kernel_rfl
  c0 := by kernel_rfl
  c2 := by kernel_rfl
  c3 := by kernel_rfl
  c4 := by kernel_rfl
  c5 := by kernel_rfl
  c9 := by kernel_rfl
  c20 := by kernel_rfl
  c21 := by kernel_rfl
  c37 := by kernel_rfl
  c46 := by kernel_rfl
  c51 := by kernel_rfl
  c53 := by kernel_rfl
  c75 := by kernel_rfl
  c76 := by kernel_rfl
  c80 := by kernel_rfl
  c85 := by kernel_rfl
  c127 := by kernel_rfl
  c143 := by kernel_rfl
  c145 := by kernel_rfl
  c167 := by kernel_rfl
  c168 := by kernel_rfl
  c171 := by kernel_rfl
  c173 := by kernel_rfl
  c175 := by kernel_rfl
  c210 := by kernel_rfl
  c212 := by kernel_rfl
  c213 := by kernel_rfl
  c232 := by kernel_rfl
  c233 := by kernel_rfl }
def Tryz.laySplit_ren : Go.Shelf.Ren := ⟨fun | 146 => 38 | 221 => 62 | 268 => 80 | 138 => 81 | 143 => 82 | 195 => 108 | 197 => 109 | 218 => 110 | 219 => 111 | 260 => 125 | 217 => 126 | 225 => 127 | 224 => 128 | 267 => 129 | 266 => 136 | 314 => 137 | n => n, fun | 9 => 9 | 31 => 47 | 3 => 3 | 4 => 4 | 0 => 0 | 105 => 158 | 21 => 21 | 5 => 5 | 46 => 129 | 119 => 188 | 139 => 191 | 138 => 190 | 146 => 192 | 51 => 38 | n => n, fun | 1 => 3 | 3 => 4 | 4 => 5 | n => n⟩
theorem Tryz.laySplit : Go.Proofs.Lays.n146 Tryz.prog Tryz.laySplit_ren := {
  mixed := by kernel_rfl
  f138 := Tryz.func81.trans (congrArg some (by kernel_rfl))
  f143 := Tryz.func82.trans (congrArg some (by kernel_rfl))
  f146 := Tryz.func38.trans (congrArg some (by kernel_rfl))
  f195 := Tryz.func108.trans (congrArg some (by kernel_rfl))
  f197 := Tryz.func109.trans (congrArg some (by kernel_rfl))
  f217 := Tryz.func126.trans (congrArg some (by kernel_rfl))
  f218 := Tryz.func110.trans (congrArg some (by kernel_rfl))
  f219 := Tryz.func111.trans (congrArg some (by kernel_rfl))
  f221 := Tryz.func62.trans (congrArg some (by kernel_rfl))
  f224 := Tryz.func128.trans (congrArg some (by kernel_rfl))
  f225 := Tryz.func127.trans (congrArg some (by kernel_rfl))
  f260 := Tryz.func125.trans (congrArg some (by kernel_rfl))
  f266 := Tryz.func136.trans (congrArg some (by kernel_rfl))
  f267 := Tryz.func129.trans (congrArg some (by kernel_rfl))
  f268 := Tryz.func80.trans (congrArg some (by kernel_rfl))
  f314 := Tryz.func137.trans (congrArg some (by kernel_rfl))
  t0 := Tryz.underlying0
  a0 := Tryz.isAgg0
  z0 := Tryz.sizeOf0
  v0 := Tryz.zeroValue0
  t3 := Tryz.underlying3
  a3 := Tryz.isAgg3
  z3 := Tryz.sizeOf3
  v3 := Tryz.zeroValue3
  t4 := Tryz.underlying4
  a4 := Tryz.isAgg4
  z4 := Tryz.sizeOf4
  v4 := Tryz.zeroValue4
  t5 := Tryz.underlying5
  a5 := Tryz.isAgg5
  z5 := Tryz.sizeOf5
  v5 := Tryz.zeroValue5
  t9 := Tryz.underlying9
  a9 := Tryz.isAgg9
  z9 := Tryz.sizeOf9
  v9 := Tryz.zeroValue9
  t21 := Tryz.underlying21
  a21 := Tryz.isAgg21
  z21 := Tryz.sizeOf21
  v21 := Tryz.zeroValue21
  t31 := Tryz.underlying47
  a31 := Tryz.isAgg47
  z31 := Tryz.sizeOf47
  v31 := Tryz.zeroValue47
  t46 := Tryz.underlying129
  a46 := Tryz.isAgg129
  z46 := Tryz.sizeOf129
  v46 := Tryz.zeroValue129
  t51 := Tryz.underlying38
  a51 := Tryz.isAgg38
  z51 := Tryz.sizeOf38
  v51 := Tryz.zeroValue38
  t105 := Tryz.underlying158
  a105 := Tryz.isAgg158
  z105 := Tryz.sizeOf158
  v105 := Tryz.zeroValue158
  t119 := Tryz.underlying188
  a119 := Tryz.isAgg188
  z119 := Tryz.sizeOf188
  t138 := Tryz.underlying190
  a138 := Tryz.isAgg190
  z138 := Tryz.sizeOf190
  v138 := Tryz.zeroValue190
  t139 := Tryz.underlying191
  a139 := Tryz.isAgg191
  z139 := Tryz.sizeOf191
  v139 := Tryz.zeroValue191
  t146 := Tryz.underlying192
  a146 := Tryz.isAgg192
  z146 := Tryz.sizeOf192
  v146 := Tryz.zeroValue192
  g1 := by kernel_rfl
  g3 := by kernel_rfl
  g4 := by kernel_rfl }
end Go.Proofs
end

section
set_option linter.unusedVariables false
set_option linter.unusedSimpArgs false
namespace Go.Proofs.T
open Go Go.AM Go.Proofs Go.Lib
set_option linter.unusedSimpArgs false
set_option linter.unusedVariables false
set_option maxRecDepth 4000
variable {Γ : List (Nat × List AVal)}
structure GT (Γ : List (Nat × List AVal)) : Prop where
  pow : AM.look Γ 2 = some (Lib.pow10Tab.map fun z => .lit (.int .u64 z))
  errS : ∃ te pe, AM.look Γ 0 = some [.lit (.iface te pe)]
  errR : ∃ te pe, AM.look Γ 1 = some [.lit (.iface te pe)]
  maxL : ∃ m, AM.look Γ 3 = some [.lit (.int .i64 m)]
theorem itoa_c (hG : GT Γ) (n : Int) (h0 : -9223372036854775808 ≤ n) (h1 : n ≤ 9223372036854775807) : Pure Tryz.prog Γ 36 [.lit (.int .i64 n)] (.lit (.string (ByteArray.mk (itoa n).toArray))) :=
  Pure_Itoa (g := 2) Tryz.layItoa (by kernel_rfl) hG.pow n h0 h1
theorem atoi_c (hG : GT Γ) (l : List UInt8) (hl : l.length ≤ 281474976710656) : Pure Tryz.prog Γ 39 [.lit (.string (ByteArray.mk l.toArray))] (.tup [.lit (.int .i64 (atoiV l)), .junk]) := by
  obtain ⟨te, pe, h1⟩ := hG.errS
  obtain ⟨te', pe', h2⟩ := hG.errR
  exact Pure_Atoi Tryz.layAtoi h1 h2 l hl
theorem split_c (hG : GT Γ) (l : List UInt8) (hl : l.length < 4294967281) : Pure Tryz.prog Γ 38 [.lit (.string (ByteArray.mk l.toArray)), .lit (.string (ByteArray.mk [(32 : UInt8)].toArray))] (strs (split l [32])) := by
  obtain ⟨m, h1⟩ := hG.maxL
  exact Pure_Split Tryz.laySplit (by kernel_rfl) h1 l [32] hl (by simp)
theorem name_c (r : Nat) (hr : r < 256) : Pure Tryz.prog Γ 17 [.lit (.int .u8 (r : Int))] (.lit (.string (ByteArray.mk (nm r).toArray))) := by
  by_cases h : r < 18
  · have hc : r = 0 ∨ r = 1 ∨ r = 2 ∨ r = 3 ∨ r = 4 ∨ r = 5 ∨ r = 6 ∨ r = 7 ∨ r = 8 ∨ r = 9 ∨ r = 10 ∨ r = 11 ∨ r = 12 ∨ r = 13 ∨ r = 14 ∨ r = 15 ∨ r = 16 ∨ r = 17 := by omega
    rcases hc with rfl | rfl | rfl | rfl | rfl | rfl | rfl | rfl | rfl | rfl | rfl | rfl | rfl | rfl | rfl | rfl | rfl | rfl
    all_goals exact Pure_ev (k' := 1) 20 rfl rfl (by kernel_rfl)
  · rw [nm_big (by omega)]
    refine Pure_at Tryz.func17 rfl 10 rfl (Nat.le_of_ble_eq_true rfl) rfl fun k => ?_
    (repeat' (first | (refine C_seq rfl ?_) | (refine C_block rfl ?_) | (refine C_skip rfl ?_; (try simp -dsimp -implicitDefEqProofs only [go_sem, eq_self, ↓reduceIte])) | (refine C_exit rfl ?_; (try simp -dsimp -implicitDefEqProofs only [go_sem, eq_self, ↓reduceIte])) | (refine C_cond rfl _ rfl (fun ht => ?_) (fun ht => ?_) <;> (try (simp only [nf] at ht)) <;> (try (exfalso; omega))) | ((first | (refine S_reg0 rfl [0,2,3,6] rfl rfl (fun K hK => ?_)) | (refine S_drw0 rfl [0,2,3,6] rfl (by kernel_rfl) rfl (fun K hK => ?_))); simp -dsimp -implicitDefEqProofs only [go_sem, eq_self, ↓reduceIte]; (repeat' (first | (refine And.intro ?_ ?_) | (refine gs_both (fun hb => ?_) (fun hb => ?_) <;> (have hg := hb; (try simp only [nfb] at hg); simp -dsimp -implicitDefEqProofs only [go_sem, hb, hg, eq_self, ↓reduceIte]; clear hb; (try simp only [nfe] at hg))))); any_goals ((first | (refine hK _ _ _ _ (fun hx => ?_)) | (refine hK _ _ _ _ (drawOk_names (fun i => i - k) (by simp only [List.map_cons, List.map_nil, shG, ↓reduceIte, Nat.add_sub_cancel_left, Nat.sub_self]; rfl) (by decide +kernel) (by simp -dsimp -implicitDefEqProofs only [go_sem, eq_self, ↓reduceIte])) (fun hx => ?_)) | (refine hK _ _ _ _ (drawOk_of (by kernel_rfl) (by simp -dsimp -implicitDefEqProofs only [go_sem, eq_self, ↓reduceIte])) (fun hx => ?_))); clear hx hK; simp -dsimp -implicitDefEqProofs only [go_sem, eq_self, ↓reduceIte]; (try simp (disch := omega) only [wrap_i64, wrap_u64, wrap_u32, wrap_u8]))) | omega))
    · refine C_ret rfl ⟨_, rfl, VLe.of_eq ?_⟩
      rfl
theorem names_c : Pure Tryz.prog Γ 11 [] (strs nmL) := by
  refine Pure_at Tryz.func11 rfl 2 rfl (Nat.le_of_ble_eq_true rfl) rfl fun k => ?_
  (repeat' (first | (refine C_seq rfl ?_) | (refine C_block rfl ?_) | (refine C_skip rfl ?_; (try simp -dsimp -implicitDefEqProofs only [go_sem, eq_self, ↓reduceIte])) | (refine C_exit rfl ?_; (try simp -dsimp -implicitDefEqProofs only [go_sem, eq_self, ↓reduceIte])) | (refine C_cond rfl _ rfl (fun ht => ?_) (fun ht => ?_) <;> (try (simp only [nf] at ht)) <;> (try (exfalso; omega))) | ((first | (refine S_reg0 rfl [0] rfl rfl (fun K hK => ?_)) | (refine S_drw0 rfl [0] rfl (by kernel_rfl) rfl (fun K hK => ?_))); simp -dsimp -implicitDefEqProofs only [go_sem, eq_self, ↓reduceIte]; (repeat' (first | (refine And.intro ?_ ?_) | (refine gs_both (fun hb => ?_) (fun hb => ?_) <;> (have hg := hb; (try simp only [nfb] at hg); simp -dsimp -implicitDefEqProofs only [go_sem, hb, hg, eq_self, ↓reduceIte]; clear hb; (try simp only [nfe] at hg))))); any_goals ((first | (refine hK _ _ _ _ (fun hx => ?_)) | (refine hK _ _ _ _ (drawOk_names (fun i => i - k) (by simp only [List.map_cons, List.map_nil, shG, ↓reduceIte, Nat.add_sub_cancel_left, Nat.sub_self]; rfl) (by decide +kernel) (by simp -dsimp -implicitDefEqProofs only [go_sem, eq_self, ↓reduceIte])) (fun hx => ?_)) | (refine hK _ _ _ _ (drawOk_of (by kernel_rfl) (by simp -dsimp -implicitDefEqProofs only [go_sem, eq_self, ↓reduceIte])) (fun hx => ?_))); clear hx hK; simp -dsimp -implicitDefEqProofs only [go_sem, eq_self, ↓reduceIte]; (try simp (disch := omega) only [wrap_i64, wrap_u64, wrap_u32, wrap_u8]))) | omega))
  refine M_racc rfl (id := k) (s := 1) (l := nmL.map fun x => [.lit (.string (ByteArray.mk x.toArray))]) 0 rfl (fun _ => by rw [AM.look, if_pos rfl]; rfl) ?_
  exact ⟨_, rfl, V_strs _⟩
def dInv (n : Nat) (x : Nat × List UInt8) : Prop := (x.2 = [] ∧ x.1 = n) ∨ (x.2 ≠ [] ∧ ((x.1 = 0 ∧ x.2 = decDigits n) ∨ (0 < x.1 ∧ decDigits x.1 ++ x.2 = decDigits n)))
theorem dInv_next {n : Nat} {x : Nat × List UInt8} (h : dInv n x) (hc : x.2 = [] ∨ 0 < x.1) : dInv n (x.1 / 10, UInt8.ofNat (48 + x.1 % 10) :: x.2) := by
  refine .inr ⟨by simp, ?_⟩
  obtain ⟨m, o⟩ := x
  simp only at *
  by_cases h10 : m < 10
  · refine .inl ⟨by omega, ?_⟩
    have e : m % 10 = m := by omega
    rcases h with ⟨rfl, rfl⟩ | ⟨h1, ⟨h2, _⟩ | ⟨h2, h3⟩⟩
    · rw [e, dec_small h10]
    · rcases hc with hc | hc
      · exact absurd hc h1
      · omega
    · rw [e, ← h3, dec_small h10]; rfl
  · refine .inr ⟨by omega, ?_⟩
    rcases h with ⟨rfl, rfl⟩ | ⟨h1, ⟨h2, _⟩ | ⟨h2, h3⟩⟩
    · rw [dec_big h10]
    · omega
    · rw [← h3, dec_big h10, List.append_assoc]; rfl
theorem dInv_end {n : Nat} {x : Nat × List UInt8} (h : dInv n x) (hc : x.2 ≠ []) (hc' : x.1 = 0) : x.2 = decDigits n := by
  rcases h with ⟨h, _⟩ | ⟨_, ⟨_, h⟩ | ⟨h, _⟩⟩
  · exact absurd h hc
  · exact h
  · omega
theorem dInv_len {n : Nat} {x : Nat × List UInt8} (h : dInv n x) : x.2.length ≤ (decDigits n).length := by
  rcases h with ⟨h, _⟩ | ⟨_, ⟨_, h⟩ | ⟨_, h⟩⟩
  · rw [h]; simp
  · rw [h]; exact Nat.le_refl _
  · rw [← h, List.length_append]; omega
theorem wrap_i32 {n : Int} (h1 : -2147483648 ≤ n) (h2 : n ≤ 2147483647) : IntKind.i32.wrap n = n := by
  simp [IntKind.wrap, IntKind.bits, IntKind.signed]; omega
theorem decimal_c (n : Nat) (hn : n ≤ 9223372036854775807) : Pure Tryz.prog Γ 37 [.lit (.int .i64 (n : Int))] (.lit (.string (ByteArray.mk (decDigits n).toArray))) := by
  have hlen := dec_len 18 n (by omega)
  refine Pure_at Tryz.func37 rfl 20 rfl (Nat.le_of_ble_eq_true rfl) rfl fun k => ?_
  (repeat' (first | (refine C_seq rfl ?_) | (refine C_block rfl ?_) | (refine C_skip rfl ?_; (try simp -dsimp -implicitDefEqProofs only [go_sem, eq_self, ↓reduceIte])) | (refine C_exit rfl ?_; (try simp -dsimp -implicitDefEqProofs only [go_sem, eq_self, ↓reduceIte])) | (refine C_cond rfl _ rfl (fun ht => ?_) (fun ht => ?_) <;> (try (simp only [nf] at ht)) <;> (try (exfalso; omega))) | ((first | (refine S_reg0 rfl [0,2,3,9] rfl rfl (fun K hK => ?_)) | (refine S_drw0 rfl [0,2,3,9] rfl (by kernel_rfl) rfl (fun K hK => ?_))); simp -dsimp -implicitDefEqProofs only [go_sem, eq_self, ↓reduceIte]; (repeat' (first | (refine And.intro ?_ ?_) | (refine gs_both (fun hb => ?_) (fun hb => ?_) <;> (have hg := hb; (try simp only [nfb] at hg); simp -dsimp -implicitDefEqProofs only [go_sem, hb, hg, eq_self, ↓reduceIte]; clear hb; (try simp only [nfe] at hg))))); any_goals ((first | (refine hK _ _ _ _ (fun hx => ?_)) | (refine hK _ _ _ _ (drawOk_names (fun i => i - k) (by simp only [List.map_cons, List.map_nil, shG, ↓reduceIte, Nat.add_sub_cancel_left, Nat.sub_self]; rfl) (by decide +kernel) (by simp -dsimp -implicitDefEqProofs only [go_sem, eq_self, ↓reduceIte])) (fun hx => ?_)) | (refine hK _ _ _ _ (drawOk_of (by kernel_rfl) (by simp -dsimp -implicitDefEqProofs only [go_sem, eq_self, ↓reduceIte])) (fun hx => ?_))); clear hx hK; simp -dsimp -implicitDefEqProofs only [go_sem, eq_self, ↓reduceIte]; (try simp (disch := omega) only [wrap_i64, wrap_u64, wrap_u32, wrap_u8]))) | omega))
  refine M_forO (X := Nat × List UInt8) rfl [0,2,3,9] k (fun x => [(0, .lit (.int .i64 (x.1 : Int))), (3, .lit (.string (ByteArray.mk x.2.toArray)))]) (fun x => []) (fun x => dInv n x ∧ x.1 ≤ n) (fun x => 2 * x.1 + (if x.2 = [] then 1 else 0)) (n, []) ?_ ⟨.inl ⟨rfl, rfl⟩, Nat.le_refl _⟩ ?_
  · simp -dsimp -implicitDefEqProofs only [go_sem, eq_self, ↓reduceIte]
    exact Mv.wk (wk_low (by omega) (by simp -dsimp -implicitDefEqProofs only [go_sem, List.map_append, List.map_cons, List.map_nil, eq_self, ↓reduceIte]) (by simp -dsimp -implicitDefEqProofs only [go_sem, List.map_append, List.map_cons, List.map_nil, eq_self, ↓reduceIte]) (by simp -dsimp -implicitDefEqProofs only [go_sem, List.map_append, List.map_cons, List.map_nil, eq_self, ↓reduceIte]) (by simp -dsimp -implicitDefEqProofs only [go_sem, List.map_append, List.map_cons, List.map_nil, eq_self, ↓reduceIte]))
  rintro ⟨m, o⟩ ⟨hi, hmn⟩
  have hil : o.length ≤ (decDigits n).length := dInv_len hi
  have hm' : m ≤ n := hmn
  simp -dsimp -implicitDefEqProofs only [go_sem, eq_self, ↓reduceIte]
  have tm : (m : Int).tmod 10 = ((m % 10 : Nat) : Int) := by rw [Int.tmod_eq_emod_of_nonneg (by omega)]; omega
  have td : (m : Int).tdiv 10 = ((m / 10 : Nat) : Int) := by rw [Int.tdiv_eq_ediv_of_nonneg (by omega)]; omega
  have e48 : Utf8.encode (IntKind.i32.wrap (IntKind.i64.wrap (48 + ((m % 10 : Nat) : Int)))) = ByteArray.mk [UInt8.ofNat (48 + m % 10)].toArray := by
    rw [wrap_i64 (by omega) (by omega), wrap_i32 (by omega) (by omega), utf8_dig (by omega) (by omega)]
    have : (48 + ((m % 10 : Nat) : Int)).toNat = 48 + m % 10 := by omega
    rw [this]
  (repeat' (first | (refine C_seq rfl ?_) | (refine C_block rfl ?_) | (refine C_skip rfl ?_; (try simp -dsimp -implicitDefEqProofs only [go_sem, tm, td, e48, eq_self, ↓reduceIte])) | (refine C_exit rfl ?_; (try simp -dsimp -implicitDefEqProofs only [go_sem, tm, td, e48, eq_self, ↓reduceIte])) | (refine C_cond rfl _ rfl (fun ht => ?_) (fun ht => ?_) <;> (try (simp only [nf] at ht)) <;> (try (exfalso; omega))) | ((first | (refine S_reg0 rfl [0,2,3,9] rfl rfl (fun K hK => ?_)) | (refine S_drw0 rfl [0,2,3,9] rfl (by kernel_rfl) rfl (fun K hK => ?_))); simp -dsimp -implicitDefEqProofs only [go_sem, tm, td, e48, eq_self, ↓reduceIte]; (repeat' (first | (refine And.intro ?_ ?_) | (refine gs_both (fun hb => ?_) (fun hb => ?_) <;> (have hg := hb; (try simp only [nfb] at hg); simp -dsimp -implicitDefEqProofs only [go_sem, tm, td, e48, hb, hg, eq_self, ↓reduceIte]; clear hb; (try simp only [nfe] at hg))))); any_goals ((first | (refine hK _ _ _ _ (fun hx => ?_)) | (refine hK _ _ _ _ (drawOk_names (fun i => i - k) (by simp only [List.map_cons, List.map_nil, shG, tm, td, e48, ↓reduceIte, Nat.add_sub_cancel_left, Nat.sub_self]; rfl) (by decide +kernel) (by simp -dsimp -implicitDefEqProofs only [go_sem, tm, td, e48, eq_self, ↓reduceIte])) (fun hx => ?_)) | (refine hK _ _ _ _ (drawOk_of (by kernel_rfl) (by simp -dsimp -implicitDefEqProofs only [go_sem, tm, td, e48, eq_self, ↓reduceIte])) (fun hx => ?_))); clear hx hK; simp -dsimp -implicitDefEqProofs only [go_sem, tm, td, e48, eq_self, ↓reduceIte]; (try simp (disch := omega) only [wrap_i64, wrap_u64, wrap_u32, wrap_u8]))) | omega))
  · refine ⟨(m / 10, UInt8.ofNat (48 + m % 10) :: o), ⟨dInv_next hi (.inr (by omega)), by show m / 10 ≤ n; omega⟩, by simp only [reduceCtorEq, if_false]; omega, ?_⟩
    exact Mv.wk (wk_low (by omega) (by simp -dsimp -implicitDefEqProofs only [go_sem, tm, td, e48, List.map_append, List.map_cons, List.map_nil, eq_self, ↓reduceIte]) (by simp -dsimp -implicitDefEqProofs only [go_sem, tm, td, e48, List.map_append, List.map_cons, List.map_nil, eq_self, ↓reduceIte]) (by simp -dsimp -implicitDefEqProofs only [go_sem, tm, td, e48, List.map_append, List.map_cons, List.map_nil, eq_self, ↓reduceIte]) (by simp -dsimp -implicitDefEqProofs only [go_sem, tm, td, e48, List.map_append, List.map_cons, List.map_nil, eq_self, ↓reduceIte]))
  · refine C_ret rfl ⟨_, rfl, VLe.of_eq ?_⟩
    rw [show o = decDigits n from dInv_end hi hg (by show m = 0; omega)]
  · subst hg
    refine ⟨(m / 10, UInt8.ofNat (48 + m % 10) :: []), ⟨dInv_next hi (.inl rfl), by show m / 10 ≤ n; omega⟩, by simp only [reduceCtorEq, if_false, if_true]; omega, ?_⟩
    exact Mv.wk (wk_low (by omega) (by simp -dsimp -implicitDefEqProofs only [go_sem, tm, td, e48, List.map_append, List.map_cons, List.map_nil, eq_self, ↓reduceIte]) (by simp -dsimp -implicitDefEqProofs only [go_sem, tm, td, e48, List.map_append, List.map_cons, List.map_nil, eq_self, ↓reduceIte]) (by simp -dsimp -implicitDefEqProofs only [go_sem, tm, td, e48, List.map_append, List.map_cons, List.map_nil, eq_self, ↓reduceIte]) (by simp -dsimp -implicitDefEqProofs only [go_sem, tm, td, e48, List.map_append, List.map_cons, List.map_nil, eq_self, ↓reduceIte]))
theorem dig_dec (c : UInt8) : dig c = (decide (48 ≤ (c.toNat : Int)) && decide ((c.toNat : Int) ≤ 57)) := by
  rw [Bool.eq_iff_iff, dig_iff]; simp; omega
theorem drop_at {s : List UInt8} {i : Nat} (h : i < s.length) : s.drop i = s.getD i 0 :: s.drop (i + 1) := by
  rw [List.drop_eq_getElem_cons h]; simp [List.getD, h]
theorem numGo_next {s : List UInt8} {n i : Nat} (h : i < s.length) (h1 : 48 ≤ (s.getD i 0).toNat) (h2 : (s.getD i 0).toNat ≤ 57) (h3 : ¬ (9223372036854775807 - ((s.getD i 0).toNat - 48)) / 10 < n) :
    numGo n i (s.drop i) = numGo (10 * n + ((s.getD i 0).toNat - 48)) (i + 1) (s.drop (i + 1)) := by
  rw [drop_at h, numGo, if_pos (dig_iff.2 ⟨h1, h2⟩), if_neg h3]
theorem numGo_over {s : List UInt8} {n i : Nat} (h : i < s.length) (h1 : 48 ≤ (s.getD i 0).toNat) (h2 : (s.getD i 0).toNat ≤ 57) (h3 : (9223372036854775807 - ((s.getD i 0).toNat - 48)) / 10 < n) :
    numGo n i (s.drop i) = (none, i) := by
  rw [drop_at h, numGo, if_pos (dig_iff.2 ⟨h1, h2⟩), if_pos h3]
theorem numGo_stop {s : List UInt8} {n i : Nat} (h : i < s.length) (h1 : ¬ (48 ≤ (s.getD i 0).toNat ∧ (s.getD i 0).toNat ≤ 57)) : numGo n i (s.drop i) = (some n, i) := by
  rw [drop_at h, numGo, if_neg (fun e => h1 (dig_iff.1 e))]
theorem numGo_out {s : List UInt8} {n i : Nat} (h : s.length ≤ i) : numGo n i (s.drop i) = (some n, i) := by
  rw [List.drop_eq_nil_of_le h, numGo]
theorem head_getD {s : List UInt8} : (0 < s.length ∧ (s.getD 0 0).toNat = 48) ↔ s.head? = some 48 := by
  cases s with
  | nil => simp
  | cons c r =>
    simp only [List.length_cons, Nat.zero_lt_succ, true_and, List.getD_cons_zero, List.head?_cons, Option.some.injEq]
    exact ⟨fun h => UInt8.toNat_inj.1 (by rw [h]; rfl), fun h => by rw [h]; rfl⟩
theorem number_c (s : List UInt8) (hs : s.length ≤ 4294967296) : Pure Tryz.prog Γ 40 [.lit (.string (ByteArray.mk s.toArray))] (.tup [.lit (.int .i64 (numP s).1), .lit (.int .i64 ((numP s).2 : Int))]) := by
  refine Pure_at Tryz.func40 rfl 54 rfl (Nat.le_of_ble_eq_true rfl) rfl fun k => ?_
  refine C_seq rfl ?_; (refine S_reg0 rfl [0,2,3,4,5,6,22,32,50] rfl rfl (fun K hK => ?_)); simp -dsimp -implicitDefEqProofs only [go_sem, eq_self, ↓reduceIte]; (refine hK _ _ _ _ (fun hx => ?_)); clear hx hK; simp -dsimp -implicitDefEqProofs only [go_sem, eq_self, ↓reduceIte]; clear K
  refine C_seq rfl ?_; (refine S_reg0 rfl [0,2,3,4,5,6,22,32,50] rfl rfl (fun K hK => ?_)); simp -dsimp -implicitDefEqProofs only [go_sem, eq_self, ↓reduceIte]; (refine hK _ _ _ _ (fun hx => ?_)); clear hx hK; simp -dsimp -implicitDefEqProofs only [go_sem, eq_self, ↓reduceIte]; clear K
  refine M_midO (X := Nat × Nat) rfl [0,2,3,4,5,6,22,32,50] k (fun x => [(4, .lit (.int .i64 (x.1 : Int))), (5, .lit (.int .i64 (x.2 : Int)))]) (fun x => []) (fun x => numGo 0 0 s = (some x.1, x.2) ∧ x.2 ≤ s.length) ?_ ?_
  · (repeat' (first | (refine C_seq rfl ?_) | (refine C_block rfl ?_) | (refine C_skip rfl ?_; (try simp -dsimp -implicitDefEqProofs only [go_sem, eq_self, ↓reduceIte])) | (refine C_exit rfl ?_; (try simp -dsimp -implicitDefEqProofs only [go_sem, eq_self, ↓reduceIte])) | (refine C_cond rfl _ rfl (fun ht => ?_) (fun ht => ?_) <;> (try (simp only [nf] at ht)) <;> (try (exfalso; omega))) | ((first | (refine S_reg0 rfl [0,2,3,4,5,6,22,32,50] rfl rfl (fun K hK => ?_)) | (refine S_drw0 rfl [0,2,3,4,5,6,22,32,50] rfl (by kernel_rfl) rfl (fun K hK => ?_))); simp -dsimp -implicitDefEqProofs only [go_sem, eq_self, ↓reduceIte]; (repeat' (first | (refine And.intro ?_ ?_) | (refine gs_both (fun hb => ?_) (fun hb => ?_) <;> (have hg := hb; (try simp only [nfb] at hg); simp -dsimp -implicitDefEqProofs only [go_sem, hb, hg, eq_self, ↓reduceIte]; clear hb; (try simp only [nfe] at hg))))); any_goals ((first | (refine hK _ _ _ _ (fun hx => ?_)) | (refine hK _ _ _ _ (drawOk_names (fun i => i - k) (by simp only [List.map_cons, List.map_nil, shG, ↓reduceIte, Nat.add_sub_cancel_left, Nat.sub_self]; rfl) (by decide +kernel) (by simp -dsimp -implicitDefEqProofs only [go_sem, eq_self, ↓reduceIte])) (fun hx => ?_)) | (refine hK _ _ _ _ (drawOk_of (by kernel_rfl) (by simp -dsimp -implicitDefEqProofs only [go_sem, eq_self, ↓reduceIte])) (fun hx => ?_))); clear hx hK; simp -dsimp -implicitDefEqProofs only [go_sem, eq_self, ↓reduceIte]; (try simp (disch := omega) only [wrap_i64, wrap_u64, wrap_u32, wrap_u8]))) | omega))
    refine M_forO (X := Nat × Nat) rfl [0,2,3,4,5,6,22,32,50] k (fun x => [(4, .lit (.int .i64 (x.1 : Int))), (5, .lit (.int .i64 (x.2 : Int)))]) (fun x => []) (fun x => numGo x.1 x.2 (s.drop x.2) = numGo 0 0 s ∧ x.2 ≤ s.length ∧ x.1 ≤ 9223372036854775807) (fun x => s.length - x.2) (0, 0) ?_ ⟨rfl, Nat.zero_le _, Nat.zero_le _⟩ ?_
    · simp -dsimp -implicitDefEqProofs only [go_sem, eq_self, ↓reduceIte]
      exact Mv.wk (wk_low (by omega) (by simp -dsimp -implicitDefEqProofs only [go_sem, List.map_append, List.map_cons, List.map_nil, eq_self, ↓reduceIte]) (by simp -dsimp -implicitDefEqProofs only [go_sem, List.map_append, List.map_cons, List.map_nil, eq_self, ↓reduceIte]) (by simp -dsimp -implicitDefEqProofs only [go_sem, List.map_append, List.map_cons, List.map_nil, eq_self, ↓reduceIte]) (by simp -dsimp -implicitDefEqProofs only [go_sem, List.map_append, List.map_cons, List.map_nil, eq_self, ↓reduceIte]))
    rintro ⟨n, i⟩ ⟨hi, hil, hn⟩
    have hil' : i ≤ s.length := hil
    have hn' : n ≤ 9223372036854775807 := hn
    have hi' : numGo n i (s.drop i) = numGo 0 0 s := hi
    clear hi hil hn
    have hc0 := (s.getD i 0).toNat_lt
    obtain ⟨d, hd⟩ : ∃ d, d = (s.getD i 0).toNat := ⟨_, rfl⟩
    rw [← hd] at hc0
    have td : ∀ x : Int, 0 ≤ x → x.tdiv 10 = x / 10 := fun x hx => Int.tdiv_eq_ediv_of_nonneg hx
    simp -dsimp -implicitDefEqProofs only [go_sem, eq_self, ↓reduceIte]
    have hw : (48 : Int) ≤ d → (d : Int) ≤ 57 → IntKind.i64.wrap ((9223372036854775807 - ((d : Int) - 48)).tdiv 10) = (9223372036854775807 - ((d : Int) - 48)) / 10 := fun h1 h2 => by
      rw [td _ (by omega), wrap_i64 (by omega) (by omega)]
    (repeat' (first | (refine C_seq rfl ?_) | (refine C_block rfl ?_) | (refine C_skip rfl ?_; (try simp -dsimp -implicitDefEqProofs only [go_sem, ← hd, eq_self, ↓reduceIte])) | (refine C_exit rfl ?_; (try simp -dsimp -implicitDefEqProofs only [go_sem, ← hd, eq_self, ↓reduceIte])) | (refine C_cond rfl _ rfl (fun ht => ?_) (fun ht => ?_) <;> (try (simp only [nf] at ht)) <;> (try (exfalso; omega))) | ((first | (refine S_reg0 rfl [0,2,3,4,5,6,22,32,50] rfl rfl (fun K hK => ?_)) | (refine S_drw0 rfl [0,2,3,4,5,6,22,32,50] rfl (by kernel_rfl) rfl (fun K hK => ?_))); simp -dsimp -implicitDefEqProofs only [go_sem, ← hd, eq_self, ↓reduceIte]; (repeat' (first | (refine And.intro ?_ ?_) | (refine gs_both (fun hb => ?_) (fun hb => ?_) <;> (have hg := hb; (try simp only [nfb] at hg); simp -dsimp -implicitDefEqProofs only [go_sem, ← hd, hb, hg, eq_self, ↓reduceIte]; clear hb; (try simp only [nfe] at hg))))); any_goals ((first | (refine hK _ _ _ _ (fun hx => ?_)) | (refine hK _ _ _ _ (drawOk_names (fun i => i - k) (by simp only [List.map_cons, List.map_nil, shG, ← hd, ↓reduceIte, Nat.add_sub_cancel_left, Nat.sub_self]; rfl) (by decide +kernel) (by simp -dsimp -implicitDefEqProofs only [go_sem, ← hd, eq_self, ↓reduceIte])) (fun hx => ?_)) | (refine hK _ _ _ _ (drawOk_of (by kernel_rfl) (by simp -dsimp -implicitDefEqProofs only [go_sem, ← hd, eq_self, ↓reduceIte])) (fun hx => ?_))); clear hx hK; simp -dsimp -implicitDefEqProofs only [go_sem, ← hd, eq_self, ↓reduceIte]; (try simp (disch := omega) only [wrap_i64, wrap_u64, wrap_u32, wrap_u8]))) | omega))
    · rw [hw (by omega) (by omega)] at ht
      have hN : numP s = (-1, i) := by
        have := numGo_over (s := s) (n := n) (i := i) (by omega) (by omega) (by omega) (by omega)
        unfold numP; rw [← hi', this]; rfl
      refine C_ret rfl ⟨_, rfl, VLe.of_eq ?_⟩
      rw [hN]
    · rw [hw (by omega) (by omega)] at ht
      refine ⟨(10 * n + (d - 48), i + 1), ⟨?_, by show i + 1 ≤ s.length; omega, by show 10 * n + (d - 48) ≤ 9223372036854775807; omega⟩, by show s.length - (i + 1) < _; omega, ?_⟩
      · have := numGo_next (s := s) (n := n) (i := i) (by omega) (by omega) (by omega) (by omega)
        rw [← hi', this, ← hd]
      · have e1 : ((10 * n + (d - 48) : Nat) : Int) = 10 * (n : Int) + ((d : Int) - 48) := by omega
        have e2 : ((i + 1 : Nat) : Int) = (i : Int) + 1 := by omega
        simp only []
        rw [e1, e2]
        exact Mv.wk (wk_low (by omega) (by simp -dsimp -implicitDefEqProofs only [go_sem, ← hd, List.map_append, List.map_cons, List.map_nil, eq_self, ↓reduceIte]) (by simp -dsimp -implicitDefEqProofs only [go_sem, ← hd, List.map_append, List.map_cons, List.map_nil, eq_self, ↓reduceIte]) (by simp -dsimp -implicitDefEqProofs only [go_sem, ← hd, List.map_append, List.map_cons, List.map_nil, eq_self, ↓reduceIte]) (by simp -dsimp -implicitDefEqProofs only [go_sem, ← hd, List.map_append, List.map_cons, List.map_nil, eq_self, ↓reduceIte]))
    · refine ⟨(n, i), ⟨by rw [← hi']; exact numGo_stop (by omega) (by omega), hil'⟩, ?_⟩
      exact Mv.wk (wk_low (by omega) (by simp -dsimp -implicitDefEqProofs only [go_sem, ← hd, List.map_append, List.map_cons, List.map_nil, eq_self, ↓reduceIte]) (by simp -dsimp -implicitDefEqProofs only [go_sem, ← hd, List.map_append, List.map_cons, List.map_nil, eq_self, ↓reduceIte]) (by simp -dsimp -implicitDefEqProofs only [go_sem, ← hd, List.map_append, List.map_cons, List.map_nil, eq_self, ↓reduceIte]) (by simp -dsimp -implicitDefEqProofs only [go_sem, ← hd, List.map_append, List.map_cons, List.map_nil, eq_self, ↓reduceIte]))
    · refine ⟨(n, i), ⟨by rw [← hi']; exact numGo_stop (by omega) (by omega), hil'⟩, ?_⟩
      exact Mv.wk (wk_low (by omega) (by simp -dsimp -implicitDefEqProofs only [go_sem, ← hd, List.map_append, List.map_cons, List.map_nil, eq_self, ↓reduceIte]) (by simp -dsimp -implicitDefEqProofs only [go_sem, ← hd, List.map_append, List.map_cons, List.map_nil, eq_self, ↓reduceIte]) (by simp -dsimp -implicitDefEqProofs only [go_sem, ← hd, List.map_append, List.map_cons, List.map_nil, eq_self, ↓reduceIte]) (by simp -dsimp -implicitDefEqProofs only [go_sem, ← hd, List.map_append, List.map_cons, List.map_nil, eq_self, ↓reduceIte]))
    · refine ⟨(n, i), ⟨by rw [← hi']; exact numGo_out (by omega), hil'⟩, ?_⟩
      exact Mv.wk (wk_low (by omega) (by simp -dsimp -implicitDefEqProofs only [go_sem, ← hd, List.map_append, List.map_cons, List.map_nil, eq_self, ↓reduceIte]) (by simp -dsimp -implicitDefEqProofs only [go_sem, ← hd, List.map_append, List.map_cons, List.map_nil, eq_self, ↓reduceIte]) (by simp -dsimp -implicitDefEqProofs only [go_sem, ← hd, List.map_append, List.map_cons, List.map_nil, eq_self, ↓reduceIte]) (by simp -dsimp -implicitDefEqProofs only [go_sem, ← hd, List.map_append, List.map_cons, List.map_nil, eq_self, ↓reduceIte]))
  rintro ⟨n, i⟩ ⟨h1, h2⟩
  have h1' : numGo 0 0 s = (some n, i) := h1
  have h2' : i ≤ s.length := h2
  clear h1 h2
  have hN : numP s = if i = 0 ∨ (s.head? = some 48 ∧ 1 < i) then (-1, i) else ((n : Int), i) := by unfold numP; rw [h1']; rfl
  have hh := head_getD (s := s)
  simp -dsimp -implicitDefEqProofs only [go_sem, eq_self, ↓reduceIte]
  (repeat' (first | (refine C_seq rfl ?_) | (refine C_block rfl ?_) | (refine C_skip rfl ?_; (try simp -dsimp -implicitDefEqProofs only [go_sem, eq_self, ↓reduceIte])) | (refine C_exit rfl ?_; (try simp -dsimp -implicitDefEqProofs only [go_sem, eq_self, ↓reduceIte])) | (refine C_cond rfl _ rfl (fun ht => ?_) (fun ht => ?_) <;> (try (simp only [nf] at ht)) <;> (try (exfalso; omega))) | ((first | (refine S_reg0 rfl [0,2,3,4,5,6,22,32,50] rfl rfl (fun K hK => ?_)) | (refine S_drw0 rfl [0,2,3,4,5,6,22,32,50] rfl (by kernel_rfl) rfl (fun K hK => ?_))); simp -dsimp -implicitDefEqProofs only [go_sem, eq_self, ↓reduceIte]; (repeat' (first | (refine And.intro ?_ ?_) | (refine gs_both (fun hb => ?_) (fun hb => ?_) <;> (have hg := hb; (try simp only [nfb] at hg); simp -dsimp -implicitDefEqProofs only [go_sem, hb, hg, eq_self, ↓reduceIte]; clear hb; (try simp only [nfe] at hg))))); any_goals ((first | (refine hK _ _ _ _ (fun hx => ?_)) | (refine hK _ _ _ _ (drawOk_names (fun i => i - k) (by simp only [List.map_cons, List.map_nil, shG, ↓reduceIte, Nat.add_sub_cancel_left, Nat.sub_self]; rfl) (by decide +kernel) (by simp -dsimp -implicitDefEqProofs only [go_sem, eq_self, ↓reduceIte])) (fun hx => ?_)) | (refine hK _ _ _ _ (drawOk_of (by kernel_rfl) (by simp -dsimp -implicitDefEqProofs only [go_sem, eq_self, ↓reduceIte])) (fun hx => ?_))); clear hx hK; simp -dsimp -implicitDefEqProofs only [go_sem, eq_self, ↓reduceIte]; (try simp (disch := omega) only [wrap_i64, wrap_u64, wrap_u32, wrap_u8]))) | omega))
  all_goals (refine C_ret rfl ⟨_, rfl, VLe.of_eq ?_⟩)
  all_goals (rw [hN]; first | (rw [if_pos (.inl (by omega))]; done) | (rw [if_pos (.inr ⟨hh.1 ⟨by omega, by omega⟩, by omega⟩)]; done) | (rw [if_neg (by rintro (h | ⟨h, h'⟩); (· omega); (· have := hh.2 h; omega))]; done))
end Go.Proofs.T
end
