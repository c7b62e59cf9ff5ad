import Derived.Test.YgvaawGreatKit
namespace Go.Proofs.YgvaawGreat
open Go
theorem sz_3 : Sz 3 1 := by
  show (Hvaa.prog.info? 3).map (·.size) = some 1
  kernel_rfl
theorem one_3 : IsOne 3 := one_int Hvaa.underlying3
theorem sz_4 : Sz 4 1 := by
  show (Hvaa.prog.info? 4).map (·.size) = some 1
  kernel_rfl
theorem one_4 : IsOne 4 := one_bool Hvaa.underlying4
theorem sz_5 : Sz 5 1 := by
  show (Hvaa.prog.info? 5).map (·.size) = some 1
  kernel_rfl
theorem one_5 : IsOne 5 := one_int Hvaa.underlying5
theorem sz_9 : Sz 9 1 := by
  show (Hvaa.prog.info? 9).map (·.size) = some 1
  kernel_rfl
theorem sz_21 : Sz 21 1 := by
  show (Hvaa.prog.info? 21).map (·.size) = some 1
  kernel_rfl
theorem one_21 : IsOne 21 := one_int Hvaa.underlying21
theorem sz_23 : Sz 23 1 := by
  show (Hvaa.prog.info? 23).map (·.size) = some 1
  kernel_rfl
theorem one_23 : IsOne 23 := one_slice Hvaa.underlying23
theorem sz_25 : Sz 25 20 := by
  show (Hvaa.prog.info? 25).map (·.size) = some 20
  kernel_rfl
theorem agg_25 : IsAgg 25 := agg_array Hvaa.underlying25
theorem sz_26 : Sz 26 1 := by
  show (Hvaa.prog.info? 26).map (·.size) = some 1
  kernel_rfl
theorem one_26 : IsOne 26 := one_int Hvaa.underlying26
theorem sz_27 : Sz 27 32 := by
  show (Hvaa.prog.info? 27).map (·.size) = some 32
  kernel_rfl
theorem agg_27 : IsAgg 27 := agg_array Hvaa.underlying27
theorem sz_28 : Sz 28 32 := by
  show (Hvaa.prog.info? 28).map (·.size) = some 32
  kernel_rfl
theorem agg_28 : IsAgg 28 := agg_array Hvaa.underlying28
theorem sz_29 : Sz 29 1 := by
  show (Hvaa.prog.info? 29).map (·.size) = some 1
  kernel_rfl
theorem one_29 : IsOne 29 := one_slice Hvaa.underlying29
theorem sz_31 : Sz 31 120 := by
  show (Hvaa.prog.info? 31).map (·.size) = some 120
  kernel_rfl
theorem agg_31 : IsAgg 31 := agg_struct Hvaa.underlying31
theorem sz_32 : Sz 32 1 := by
  show (Hvaa.prog.info? 32).map (·.size) = some 1
  kernel_rfl
theorem one_32 : IsOne 32 := one_slice Hvaa.underlying32
theorem sz_38 : Sz 38 1 := by
  show (Hvaa.prog.info? 38).map (·.size) = some 1
  kernel_rfl
theorem one_38 : IsOne 38 := one_slice Hvaa.underlying38
theorem sz_39 : Sz 39 1 := by
  show (Hvaa.prog.info? 39).map (·.size) = some 1
  kernel_rfl
theorem one_39 : IsOne 39 := one_slice Hvaa.underlying39
theorem sz_41 : Sz 41 174 := by
  show (Hvaa.prog.info? 41).map (·.size) = some 174
  kernel_rfl
theorem agg_41 : IsAgg 41 := agg_struct Hvaa.underlying41
theorem sz_42 : Sz 42 1 := by
  show (Hvaa.prog.info? 42).map (·.size) = some 1
  kernel_rfl
theorem one_42 : IsOne 42 := one_slice Hvaa.underlying42
theorem sz_44 : Sz 44 25 := by
  show (Hvaa.prog.info? 44).map (·.size) = some 25
  kernel_rfl
theorem agg_44 : IsAgg 44 := agg_struct Hvaa.underlying44
theorem sz_59 : Sz 59 1 := by
  show (Hvaa.prog.info? 59).map (·.size) = some 1
  kernel_rfl
theorem one_59 : IsOne 59 := one_ptr Hvaa.underlying59
theorem sz_60 : Sz 60 1 := by
  show (Hvaa.prog.info? 60).map (·.size) = some 1
  kernel_rfl
theorem one_60 : IsOne 60 := one_int Hvaa.underlying60
theorem sz_61 : Sz 61 8 := by
  show (Hvaa.prog.info? 61).map (·.size) = some 8
  kernel_rfl
theorem agg_61 : IsAgg 61 := agg_array Hvaa.underlying61
theorem sz_63 : Sz 63 10 := by
  show (Hvaa.prog.info? 63).map (·.size) = some 10
  kernel_rfl
theorem agg_63 : IsAgg 63 := agg_struct Hvaa.underlying63
theorem sz_65 : Sz 65 4 := by
  show (Hvaa.prog.info? 65).map (·.size) = some 4
  kernel_rfl
theorem agg_65 : IsAgg 65 := agg_array Hvaa.underlying65
theorem sz_66 : Sz 66 1792 := by
  show (Hvaa.prog.info? 66).map (·.size) = some 1792
  kernel_rfl
theorem agg_66 : IsAgg 66 := agg_array Hvaa.underlying66
theorem sz_67 : Sz 67 1 := by
  show (Hvaa.prog.info? 67).map (·.size) = some 1
  kernel_rfl
theorem one_67 : IsOne 67 := one_int Hvaa.underlying67
theorem sz_68 : Sz 68 8 := by
  show (Hvaa.prog.info? 68).map (·.size) = some 8
  kernel_rfl
theorem agg_68 : IsAgg 68 := agg_array Hvaa.underlying68
theorem sz_69 : Sz 69 8 := by
  show (Hvaa.prog.info? 69).map (·.size) = some 8
  kernel_rfl
theorem agg_69 : IsAgg 69 := agg_array Hvaa.underlying69
theorem sz_71 : Sz 71 65 := by
  show (Hvaa.prog.info? 71).map (·.size) = some 65
  kernel_rfl
theorem agg_71 : IsAgg 71 := agg_struct Hvaa.underlying71
theorem sz_72 : Sz 72 455 := by
  show (Hvaa.prog.info? 72).map (·.size) = some 455
  kernel_rfl
theorem agg_72 : IsAgg 72 := agg_array Hvaa.underlying72
theorem sz_73 : Sz 73 1 := by
  show (Hvaa.prog.info? 73).map (·.size) = some 1
  kernel_rfl
theorem one_73 : IsOne 73 := one_int Hvaa.underlying73
theorem sz_75 : Sz 75 2435 := by
  show (Hvaa.prog.info? 75).map (·.size) = some 2435
  kernel_rfl
theorem agg_75 : IsAgg 75 := agg_struct Hvaa.underlying75
theorem sz_76 : Sz 76 1 := by
  show (Hvaa.prog.info? 76).map (·.size) = some 1
  kernel_rfl
theorem one_76 : IsOne 76 := one_slice Hvaa.underlying76
theorem sz_77 : Sz 77 1 := by
  show (Hvaa.prog.info? 77).map (·.size) = some 1
  kernel_rfl
theorem one_77 : IsOne 77 := one_slice Hvaa.underlying77
theorem sz_78 : Sz 78 4096 := by
  show (Hvaa.prog.info? 78).map (·.size) = some 4096
  kernel_rfl
theorem agg_78 : IsAgg 78 := agg_array Hvaa.underlying78
theorem sz_79 : Sz 79 1 := by
  show (Hvaa.prog.info? 79).map (·.size) = some 1
  kernel_rfl
theorem one_79 : IsOne 79 := one_slice Hvaa.underlying79
theorem sz_80 : Sz 80 16384 := by
  show (Hvaa.prog.info? 80).map (·.size) = some 16384
  kernel_rfl
theorem agg_80 : IsAgg 80 := agg_array Hvaa.underlying80
theorem sz_81 : Sz 81 1 := by
  show (Hvaa.prog.info? 81).map (·.size) = some 1
  kernel_rfl
theorem one_81 : IsOne 81 := one_slice Hvaa.underlying81
theorem sz_82 : Sz 82 1 := by
  show (Hvaa.prog.info? 82).map (·.size) = some 1
  kernel_rfl
theorem one_82 : IsOne 82 := one_slice Hvaa.underlying82
theorem sz_84 : Sz 84 24584 := by
  show (Hvaa.prog.info? 84).map (·.size) = some 24584
  kernel_rfl
theorem agg_84 : IsAgg 84 := agg_struct Hvaa.underlying84
theorem sz_89 : Sz 89 5 := by
  show (Hvaa.prog.info? 89).map (·.size) = some 5
  kernel_rfl
theorem agg_89 : IsAgg 89 := agg_struct Hvaa.underlying89
theorem sz_91 : Sz 91 27024 := by
  show (Hvaa.prog.info? 91).map (·.size) = some 27024
  kernel_rfl
theorem agg_91 : IsAgg 91 := agg_struct Hvaa.underlying91
theorem sz_92 : Sz 92 1 := by
  show (Hvaa.prog.info? 92).map (·.size) = some 1
  kernel_rfl
theorem one_92 : IsOne 92 := one_slice Hvaa.underlying92
theorem sz_93 : Sz 93 1 := by
  show (Hvaa.prog.info? 93).map (·.size) = some 1
  kernel_rfl
theorem one_93 : IsOne 93 := one_slice Hvaa.underlying93
theorem sz_94 : Sz 94 1 := by
  show (Hvaa.prog.info? 94).map (·.size) = some 1
  kernel_rfl
theorem one_94 : IsOne 94 := one_slice Hvaa.underlying94
theorem sz_95 : Sz 95 1 := by
  show (Hvaa.prog.info? 95).map (·.size) = some 1
  kernel_rfl
theorem one_95 : IsOne 95 := one_slice Hvaa.underlying95
theorem sz_96 : Sz 96 1 := by
  show (Hvaa.prog.info? 96).map (·.size) = some 1
  kernel_rfl
theorem one_96 : IsOne 96 := one_slice Hvaa.underlying96
theorem sz_98 : Sz 98 8 := by
  show (Hvaa.prog.info? 98).map (·.size) = some 8
  kernel_rfl
theorem agg_98 : IsAgg 98 := agg_struct Hvaa.underlying98
theorem sz_99 : Sz 99 1 := by
  show (Hvaa.prog.info? 99).map (·.size) = some 1
  kernel_rfl
theorem one_99 : IsOne 99 := one_slice Hvaa.underlying99
theorem sz_100 : Sz 100 1 := by
  show (Hvaa.prog.info? 100).map (·.size) = some 1
  kernel_rfl
theorem one_100 : IsOne 100 := one_slice Hvaa.underlying100
theorem sz_102 : Sz 102 179 := by
  show (Hvaa.prog.info? 102).map (·.size) = some 179
  kernel_rfl
theorem agg_102 : IsAgg 102 := agg_struct Hvaa.underlying102
theorem sz_104 : Sz 104 179 := by
  show (Hvaa.prog.info? 104).map (·.size) = some 179
  kernel_rfl
theorem agg_104 : IsAgg 104 := agg_struct Hvaa.underlying104
theorem sz_105 : Sz 105 1 := by
  show (Hvaa.prog.info? 105).map (·.size) = some 1
  kernel_rfl
theorem one_105 : IsOne 105 := one_slice Hvaa.underlying105
theorem sz_107 : Sz 107 24 := by
  show (Hvaa.prog.info? 107).map (·.size) = some 24
  kernel_rfl
theorem agg_107 : IsAgg 107 := agg_struct Hvaa.underlying107
theorem sz_111 : Sz 111 1 := by
  show (Hvaa.prog.info? 111).map (·.size) = some 1
  kernel_rfl
theorem one_111 : IsOne 111 := one_slice Hvaa.underlying111
theorem sz_113 : Sz 113 55 := by
  show (Hvaa.prog.info? 113).map (·.size) = some 55
  kernel_rfl
theorem agg_113 : IsAgg 113 := agg_struct Hvaa.underlying113
theorem sz_115 : Sz 115 2 := by
  show (Hvaa.prog.info? 115).map (·.size) = some 2
  kernel_rfl
theorem agg_115 : IsAgg 115 := agg_struct Hvaa.underlying115
theorem sz_117 : Sz 117 64 := by
  show (Hvaa.prog.info? 117).map (·.size) = some 64
  kernel_rfl
theorem agg_117 : IsAgg 117 := agg_struct Hvaa.underlying117
theorem sz_131 : Sz 131 22 := by
  show (Hvaa.prog.info? 131).map (·.size) = some 22
  kernel_rfl
theorem agg_131 : IsAgg 131 := agg_struct Hvaa.underlying131
theorem sz_139 : Sz 139 22 := by
  show (Hvaa.prog.info? 139).map (·.size) = some 22
  kernel_rfl
theorem agg_139 : IsAgg 139 := agg_struct Hvaa.underlying139
theorem sz_143 : Sz 143 21 := by
  show (Hvaa.prog.info? 143).map (·.size) = some 21
  kernel_rfl
theorem agg_143 : IsAgg 143 := agg_struct Hvaa.underlying143
theorem sz_144 : Sz 144 1 := by
  show (Hvaa.prog.info? 144).map (·.size) = some 1
  kernel_rfl
theorem one_144 : IsOne 144 := one_slice Hvaa.underlying144
theorem sz_146 : Sz 146 60 := by
  show (Hvaa.prog.info? 146).map (·.size) = some 60
  kernel_rfl
theorem agg_146 : IsAgg 146 := agg_struct Hvaa.underlying146
theorem sz_165 : Sz 165 1 := by
  show (Hvaa.prog.info? 165).map (·.size) = some 1
  kernel_rfl
theorem one_165 : IsOne 165 := one_slice Hvaa.underlying165
theorem sz_167 : Sz 167 29 := by
  show (Hvaa.prog.info? 167).map (·.size) = some 29
  kernel_rfl
theorem agg_167 : IsAgg 167 := agg_struct Hvaa.underlying167
theorem sz_170 : Sz 170 6 := by
  show (Hvaa.prog.info? 170).map (·.size) = some 6
  kernel_rfl
theorem agg_170 : IsAgg 170 := agg_struct Hvaa.underlying170
theorem sz_176 : Sz 176 14 := by
  show (Hvaa.prog.info? 176).map (·.size) = some 14
  kernel_rfl
theorem agg_176 : IsAgg 176 := agg_struct Hvaa.underlying176
theorem sz_215 : Sz 215 1 := by
  show (Hvaa.prog.info? 215).map (·.size) = some 1
  kernel_rfl
theorem one_215 : IsOne 215 := one_slice Hvaa.underlying215
theorem sz_218 : Sz 218 9 := by
  show (Hvaa.prog.info? 218).map (·.size) = some 9
  kernel_rfl
theorem agg_218 : IsAgg 218 := agg_struct Hvaa.underlying218
theorem sz_232 : Sz 232 21 := by
  show (Hvaa.prog.info? 232).map (·.size) = some 21
  kernel_rfl
theorem agg_232 : IsAgg 232 := agg_struct Hvaa.underlying232
theorem sz_262 : Sz 262 8 := by
  show (Hvaa.prog.info? 262).map (·.size) = some 8
  kernel_rfl
theorem agg_262 : IsAgg 262 := agg_array Hvaa.underlying262
theorem sz_295 : Sz 295 22 := by
  show (Hvaa.prog.info? 295).map (·.size) = some 22
  kernel_rfl
theorem agg_295 : IsAgg 295 := agg_struct Hvaa.underlying295
theorem sz_317 : Sz 317 1 := by
  show (Hvaa.prog.info? 317).map (·.size) = some 1
  kernel_rfl
theorem one_317 : IsOne 317 := one_slice Hvaa.underlying317
theorem sz_318 : Sz 318 25 := by
  show (Hvaa.prog.info? 318).map (·.size) = some 25
  kernel_rfl
theorem agg_318 : IsAgg 318 := agg_array Hvaa.underlying318
theorem sz_322 : Sz 322 136 := by
  show (Hvaa.prog.info? 322).map (·.size) = some 136
  kernel_rfl
theorem agg_322 : IsAgg 322 := agg_array Hvaa.underlying322
theorem sz_336 : Sz 336 8 := by
  show (Hvaa.prog.info? 336).map (·.size) = some 8
  kernel_rfl
theorem agg_336 : IsAgg 336 := agg_array Hvaa.underlying336
theorem sz_340 : Sz 340 64 := by
  show (Hvaa.prog.info? 340).map (·.size) = some 64
  kernel_rfl
theorem agg_340 : IsAgg 340 := agg_array Hvaa.underlying340
theorem sz_383 : Sz 383 1600 := by
  show (Hvaa.prog.info? 383).map (·.size) = some 1600
  kernel_rfl
theorem agg_383 : IsAgg 383 := agg_array Hvaa.underlying383
theorem sz_386 : Sz 386 3 := by
  show (Hvaa.prog.info? 386).map (·.size) = some 3
  kernel_rfl
theorem agg_386 : IsAgg 386 := agg_array Hvaa.underlying386
theorem sz_403 : Sz 403 3 := by
  show (Hvaa.prog.info? 403).map (·.size) = some 3
  kernel_rfl
theorem agg_403 : IsAgg 403 := agg_array Hvaa.underlying403
theorem sz_405 : Sz 405 16 := by
  show (Hvaa.prog.info? 405).map (·.size) = some 16
  kernel_rfl
theorem agg_405 : IsAgg 405 := agg_array Hvaa.underlying405
theorem sz_407 : Sz 407 3 := by
  show (Hvaa.prog.info? 407).map (·.size) = some 3
  kernel_rfl
theorem agg_407 : IsAgg 407 := agg_struct Hvaa.underlying407
theorem sz_428 : Sz 428 85 := by
  show (Hvaa.prog.info? 428).map (·.size) = some 85
  kernel_rfl
theorem agg_428 : IsAgg 428 := agg_array Hvaa.underlying428
theorem sz_430 : Sz 430 9 := by
  show (Hvaa.prog.info? 430).map (·.size) = some 9
  kernel_rfl
theorem agg_430 : IsAgg 430 := agg_struct Hvaa.underlying430
theorem sz_435 : Sz 435 64 := by
  show (Hvaa.prog.info? 435).map (·.size) = some 64
  kernel_rfl
theorem agg_435 : IsAgg 435 := agg_array Hvaa.underlying435
theorem sz_436 : Sz 436 320 := by
  show (Hvaa.prog.info? 436).map (·.size) = some 320
  kernel_rfl
theorem agg_436 : IsAgg 436 := agg_array Hvaa.underlying436
theorem sz_438 : Sz 438 1600 := by
  show (Hvaa.prog.info? 438).map (·.size) = some 1600
  kernel_rfl
theorem agg_438 : IsAgg 438 := agg_array Hvaa.underlying438
theorem sz_447 : Sz 447 17 := by
  show (Hvaa.prog.info? 447).map (·.size) = some 17
  kernel_rfl
theorem agg_447 : IsAgg 447 := agg_array Hvaa.underlying447
theorem sz_462 : Sz 462 24 := by
  show (Hvaa.prog.info? 462).map (·.size) = some 24
  kernel_rfl
theorem agg_462 : IsAgg 462 := agg_array Hvaa.underlying462
theorem sz_468 : Sz 468 9 := by
  show (Hvaa.prog.info? 468).map (·.size) = some 9
  kernel_rfl
theorem agg_468 : IsAgg 468 := agg_array Hvaa.underlying468
theorem sz_473 : Sz 473 8 := by
  show (Hvaa.prog.info? 473).map (·.size) = some 8
  kernel_rfl
theorem agg_473 : IsAgg 473 := agg_array Hvaa.underlying473
set_option maxRecDepth 100000 in
theorem fld_31_0 : Fld 31 0 0 := fld_of Hvaa.underlying31 rfl rfl rfl (k := 19) sz_25
set_option maxRecDepth 100000 in
theorem fld_31_1 : Fld 31 1 20 := fld_of Hvaa.underlying31 rfl rfl rfl (k := 0) sz_26
set_option maxRecDepth 100000 in
theorem fld_31_2 : Fld 31 2 21 := fld_of Hvaa.underlying31 rfl rfl rfl (k := 0) sz_26
set_option maxRecDepth 100000 in
theorem fld_31_3 : Fld 31 3 22 := fld_of Hvaa.underlying31 rfl rfl rfl (k := 0) sz_26
set_option maxRecDepth 100000 in
theorem fld_31_4 : Fld 31 4 23 := fld_of Hvaa.underlying31 rfl rfl rfl (k := 31) sz_28
set_option maxRecDepth 100000 in
theorem fld_31_5 : Fld 31 5 55 := fld_of Hvaa.underlying31 rfl rfl rfl (k := 31) sz_28
set_option maxRecDepth 100000 in
theorem fld_31_6 : Fld 31 6 87 := fld_of Hvaa.underlying31 rfl rfl rfl (k := 31) sz_28
set_option maxRecDepth 100000 in
theorem fld_31_7 : Fld 31 7 119 := fld_of Hvaa.underlying31 rfl rfl rfl (k := 0) sz_29
set_option maxRecDepth 100000 in
theorem fld_41_0 : Fld 41 0 0 := fld_of Hvaa.underlying41 rfl rfl rfl (k := 19) sz_25
set_option maxRecDepth 100000 in
theorem fld_41_1 : Fld 41 1 20 := fld_of Hvaa.underlying41 rfl rfl rfl (k := 19) sz_25
set_option maxRecDepth 100000 in
theorem fld_41_2 : Fld 41 2 40 := fld_of Hvaa.underlying41 rfl rfl rfl (k := 0) sz_4
set_option maxRecDepth 100000 in
theorem fld_41_3 : Fld 41 3 41 := fld_of Hvaa.underlying41 rfl rfl rfl (k := 0) sz_26
set_option maxRecDepth 100000 in
theorem fld_41_4 : Fld 41 4 42 := fld_of Hvaa.underlying41 rfl rfl rfl (k := 0) sz_26
set_option maxRecDepth 100000 in
theorem fld_41_5 : Fld 41 5 43 := fld_of Hvaa.underlying41 rfl rfl rfl (k := 31) sz_28
set_option maxRecDepth 100000 in
theorem fld_41_6 : Fld 41 6 75 := fld_of Hvaa.underlying41 rfl rfl rfl (k := 31) sz_28
set_option maxRecDepth 100000 in
theorem fld_41_7 : Fld 41 7 107 := fld_of Hvaa.underlying41 rfl rfl rfl (k := 0) sz_38
set_option maxRecDepth 100000 in
theorem fld_41_8 : Fld 41 8 108 := fld_of Hvaa.underlying41 rfl rfl rfl (k := 0) sz_4
set_option maxRecDepth 100000 in
theorem fld_41_9 : Fld 41 9 109 := fld_of Hvaa.underlying41 rfl rfl rfl (k := 31) sz_28
set_option maxRecDepth 100000 in
theorem fld_41_10 : Fld 41 10 141 := fld_of Hvaa.underlying41 rfl rfl rfl (k := 31) sz_28
set_option maxRecDepth 100000 in
theorem fld_41_11 : Fld 41 11 173 := fld_of Hvaa.underlying41 rfl rfl rfl (k := 0) sz_39
set_option maxRecDepth 100000 in
theorem fld_44_0 : Fld 44 0 0 := fld_of Hvaa.underlying44 rfl rfl rfl (k := 0) sz_5
set_option maxRecDepth 100000 in
theorem fld_44_1 : Fld 44 1 1 := fld_of Hvaa.underlying44 rfl rfl rfl (k := 0) sz_5
set_option maxRecDepth 100000 in
theorem fld_44_2 : Fld 44 2 2 := fld_of Hvaa.underlying44 rfl rfl rfl (k := 0) sz_26
set_option maxRecDepth 100000 in
theorem fld_44_3 : Fld 44 3 3 := fld_of Hvaa.underlying44 rfl rfl rfl (k := 0) sz_38
set_option maxRecDepth 100000 in
theorem fld_44_4 : Fld 44 4 4 := fld_of Hvaa.underlying44 rfl rfl rfl (k := 0) sz_42
set_option maxRecDepth 100000 in
theorem fld_44_5 : Fld 44 5 5 := fld_of Hvaa.underlying44 rfl rfl rfl (k := 19) sz_25
set_option maxRecDepth 100000 in
theorem fld_63_0 : Fld 63 0 0 := fld_of Hvaa.underlying63 rfl rfl rfl (k := 0) sz_38
set_option maxRecDepth 100000 in
theorem fld_63_1 : Fld 63 1 1 := fld_of Hvaa.underlying63 rfl rfl rfl (k := 7) sz_61
set_option maxRecDepth 100000 in
theorem fld_63_2 : Fld 63 2 9 := fld_of Hvaa.underlying63 rfl rfl rfl (k := 0) sz_5
set_option maxRecDepth 100000 in
theorem fld_71_0 : Fld 71 0 0 := fld_of Hvaa.underlying71 rfl rfl rfl (k := 0) sz_5
set_option maxRecDepth 100000 in
theorem fld_71_1 : Fld 71 1 1 := fld_of Hvaa.underlying71 rfl rfl rfl (k := 0) sz_5
set_option maxRecDepth 100000 in
theorem fld_71_2 : Fld 71 2 2 := fld_of Hvaa.underlying71 rfl rfl rfl (k := 0) sz_5
set_option maxRecDepth 100000 in
theorem fld_71_3 : Fld 71 3 3 := fld_of Hvaa.underlying71 rfl rfl rfl (k := 0) sz_4
set_option maxRecDepth 100000 in
theorem fld_71_4 : Fld 71 4 4 := fld_of Hvaa.underlying71 rfl rfl rfl (k := 0) sz_67
set_option maxRecDepth 100000 in
theorem fld_71_5 : Fld 71 5 5 := fld_of Hvaa.underlying71 rfl rfl rfl (k := 0) sz_67
set_option maxRecDepth 100000 in
theorem fld_71_6 : Fld 71 6 6 := fld_of Hvaa.underlying71 rfl rfl rfl (k := 0) sz_67
set_option maxRecDepth 100000 in
theorem fld_71_7 : Fld 71 7 7 := fld_of Hvaa.underlying71 rfl rfl rfl (k := 0) sz_26
set_option maxRecDepth 100000 in
theorem fld_71_8 : Fld 71 8 8 := fld_of Hvaa.underlying71 rfl rfl rfl (k := 0) sz_21
set_option maxRecDepth 100000 in
theorem fld_71_9 : Fld 71 9 9 := fld_of Hvaa.underlying71 rfl rfl rfl (k := 19) sz_25
set_option maxRecDepth 100000 in
theorem fld_71_10 : Fld 71 10 29 := fld_of Hvaa.underlying71 rfl rfl rfl (k := 19) sz_25
set_option maxRecDepth 100000 in
theorem fld_71_11 : Fld 71 11 49 := fld_of Hvaa.underlying71 rfl rfl rfl (k := 3) sz_65
set_option maxRecDepth 100000 in
theorem fld_71_12 : Fld 71 12 53 := fld_of Hvaa.underlying71 rfl rfl rfl (k := 0) sz_38
set_option maxRecDepth 100000 in
theorem fld_71_13 : Fld 71 13 54 := fld_of Hvaa.underlying71 rfl rfl rfl (k := 0) sz_38
set_option maxRecDepth 100000 in
theorem fld_71_14 : Fld 71 14 55 := fld_of Hvaa.underlying71 rfl rfl rfl (k := 7) sz_69
set_option maxRecDepth 100000 in
theorem fld_71_15 : Fld 71 15 63 := fld_of Hvaa.underlying71 rfl rfl rfl (k := 0) sz_60
set_option maxRecDepth 100000 in
theorem fld_71_16 : Fld 71 16 64 := fld_of Hvaa.underlying71 rfl rfl rfl (k := 0) sz_60
set_option maxRecDepth 100000 in
theorem fld_75_0 : Fld 75 0 0 := fld_of Hvaa.underlying75 rfl rfl rfl (k := 0) sz_59
set_option maxRecDepth 100000 in
theorem fld_75_1 : Fld 75 1 1 := fld_of Hvaa.underlying75 rfl rfl rfl (k := 9) sz_63
set_option maxRecDepth 100000 in
theorem fld_75_2 : Fld 75 2 11 := fld_of Hvaa.underlying75 rfl rfl rfl (k := 1791) sz_66
set_option maxRecDepth 100000 in
theorem fld_75_3 : Fld 75 3 1803 := fld_of Hvaa.underlying75 rfl rfl rfl (k := 454) sz_72
set_option maxRecDepth 100000 in
theorem fld_75_4 : Fld 75 4 2258 := fld_of Hvaa.underlying75 rfl rfl rfl (k := 0) sz_73
set_option maxRecDepth 100000 in
theorem fld_75_5 : Fld 75 5 2259 := fld_of Hvaa.underlying75 rfl rfl rfl (k := 0) sz_38
set_option maxRecDepth 100000 in
theorem fld_75_6 : Fld 75 6 2260 := fld_of Hvaa.underlying75 rfl rfl rfl (k := 119) sz_31
set_option maxRecDepth 100000 in
theorem fld_75_7 : Fld 75 7 2380 := fld_of Hvaa.underlying75 rfl rfl rfl (k := 19) sz_25
set_option maxRecDepth 100000 in
theorem fld_75_8 : Fld 75 8 2400 := fld_of Hvaa.underlying75 rfl rfl rfl (k := 3) sz_65
set_option maxRecDepth 100000 in
theorem fld_75_9 : Fld 75 9 2404 := fld_of Hvaa.underlying75 rfl rfl rfl (k := 0) sz_5
set_option maxRecDepth 100000 in
theorem fld_75_10 : Fld 75 10 2405 := fld_of Hvaa.underlying75 rfl rfl rfl (k := 0) sz_5
set_option maxRecDepth 100000 in
theorem fld_75_11 : Fld 75 11 2406 := fld_of Hvaa.underlying75 rfl rfl rfl (k := 0) sz_5
set_option maxRecDepth 100000 in
theorem fld_75_12 : Fld 75 12 2407 := fld_of Hvaa.underlying75 rfl rfl rfl (k := 0) sz_26
set_option maxRecDepth 100000 in
theorem fld_75_13 : Fld 75 13 2408 := fld_of Hvaa.underlying75 rfl rfl rfl (k := 0) sz_26
set_option maxRecDepth 100000 in
theorem fld_75_14 : Fld 75 14 2409 := fld_of Hvaa.underlying75 rfl rfl rfl (k := 3) sz_65
set_option maxRecDepth 100000 in
theorem fld_75_15 : Fld 75 15 2413 := fld_of Hvaa.underlying75 rfl rfl rfl (k := 0) sz_21
set_option maxRecDepth 100000 in
theorem fld_75_16 : Fld 75 16 2414 := fld_of Hvaa.underlying75 rfl rfl rfl (k := 0) sz_21
set_option maxRecDepth 100000 in
theorem fld_75_17 : Fld 75 17 2415 := fld_of Hvaa.underlying75 rfl rfl rfl (k := 19) sz_25
set_option maxRecDepth 100000 in
theorem fld_84_0 : Fld 84 0 0 := fld_of Hvaa.underlying84 rfl rfl rfl (k := 0) sz_76
set_option maxRecDepth 100000 in
theorem fld_84_1 : Fld 84 1 1 := fld_of Hvaa.underlying84 rfl rfl rfl (k := 0) sz_77
set_option maxRecDepth 100000 in
theorem fld_84_2 : Fld 84 2 2 := fld_of Hvaa.underlying84 rfl rfl rfl (k := 4095) sz_78
set_option maxRecDepth 100000 in
theorem fld_84_3 : Fld 84 3 4098 := fld_of Hvaa.underlying84 rfl rfl rfl (k := 4095) sz_78
set_option maxRecDepth 100000 in
theorem fld_84_4 : Fld 84 4 8194 := fld_of Hvaa.underlying84 rfl rfl rfl (k := 0) sz_79
set_option maxRecDepth 100000 in
theorem fld_84_5 : Fld 84 5 8195 := fld_of Hvaa.underlying84 rfl rfl rfl (k := 16383) sz_80
set_option maxRecDepth 100000 in
theorem fld_84_6 : Fld 84 6 24579 := fld_of Hvaa.underlying84 rfl rfl rfl (k := 0) sz_21
set_option maxRecDepth 100000 in
theorem fld_84_7 : Fld 84 7 24580 := fld_of Hvaa.underlying84 rfl rfl rfl (k := 0) sz_26
set_option maxRecDepth 100000 in
theorem fld_84_8 : Fld 84 8 24581 := fld_of Hvaa.underlying84 rfl rfl rfl (k := 0) sz_42
set_option maxRecDepth 100000 in
theorem fld_84_9 : Fld 84 9 24582 := fld_of Hvaa.underlying84 rfl rfl rfl (k := 0) sz_81
set_option maxRecDepth 100000 in
theorem fld_84_10 : Fld 84 10 24583 := fld_of Hvaa.underlying84 rfl rfl rfl (k := 0) sz_82
set_option maxRecDepth 100000 in
theorem fld_89_3 : Fld 89 3 4 := fld_of Hvaa.underlying89 rfl rfl rfl (k := 0) sz_4
set_option maxRecDepth 100000 in
theorem fld_91_0 : Fld 91 0 0 := fld_of Hvaa.underlying91 rfl rfl rfl (k := 2434) sz_75
set_option maxRecDepth 100000 in
theorem fld_91_1 : Fld 91 1 2435 := fld_of Hvaa.underlying91 rfl rfl rfl (k := 24583) sz_84
set_option maxRecDepth 100000 in
theorem fld_91_2 : Fld 91 2 27019 := fld_of Hvaa.underlying91 rfl rfl rfl (k := 4) sz_89
set_option maxRecDepth 100000 in
theorem fld_98_0 : Fld 98 0 0 := fld_of Hvaa.underlying98 rfl rfl rfl (k := 0) sz_92
set_option maxRecDepth 100000 in
theorem fld_98_1 : Fld 98 1 1 := fld_of Hvaa.underlying98 rfl rfl rfl (k := 0) sz_93
set_option maxRecDepth 100000 in
theorem fld_98_2 : Fld 98 2 2 := fld_of Hvaa.underlying98 rfl rfl rfl (k := 0) sz_94
set_option maxRecDepth 100000 in
theorem fld_98_3 : Fld 98 3 3 := fld_of Hvaa.underlying98 rfl rfl rfl (k := 0) sz_95
set_option maxRecDepth 100000 in
theorem fld_98_4 : Fld 98 4 4 := fld_of Hvaa.underlying98 rfl rfl rfl (k := 0) sz_42
set_option maxRecDepth 100000 in
theorem fld_98_5 : Fld 98 5 5 := fld_of Hvaa.underlying98 rfl rfl rfl (k := 0) sz_96
set_option maxRecDepth 100000 in
theorem fld_98_6 : Fld 98 6 6 := fld_of Hvaa.underlying98 rfl rfl rfl (k := 0) sz_93
set_option maxRecDepth 100000 in
theorem fld_98_7 : Fld 98 7 7 := fld_of Hvaa.underlying98 rfl rfl rfl (k := 0) sz_93
set_option maxRecDepth 100000 in
theorem fld_102_0 : Fld 102 0 0 := fld_of Hvaa.underlying102 rfl rfl rfl (k := 7) sz_98
set_option maxRecDepth 100000 in
theorem fld_102_1 : Fld 102 1 8 := fld_of Hvaa.underlying102 rfl rfl rfl (k := 0) sz_99
set_option maxRecDepth 100000 in
theorem fld_102_2 : Fld 102 2 9 := fld_of Hvaa.underlying102 rfl rfl rfl (k := 0) sz_100
set_option maxRecDepth 100000 in
theorem fld_102_3 : Fld 102 3 10 := fld_of Hvaa.underlying102 rfl rfl rfl (k := 0) sz_38
set_option maxRecDepth 100000 in
theorem fld_102_4 : Fld 102 4 11 := fld_of Hvaa.underlying102 rfl rfl rfl (k := 0) sz_5
set_option maxRecDepth 100000 in
theorem fld_102_5 : Fld 102 5 12 := fld_of Hvaa.underlying102 rfl rfl rfl (k := 0) sz_5
set_option maxRecDepth 100000 in
theorem fld_102_6 : Fld 102 6 13 := fld_of Hvaa.underlying102 rfl rfl rfl (k := 0) sz_5
set_option maxRecDepth 100000 in
theorem fld_102_7 : Fld 102 7 14 := fld_of Hvaa.underlying102 rfl rfl rfl (k := 0) sz_95
set_option maxRecDepth 100000 in
theorem fld_102_8 : Fld 102 8 15 := fld_of Hvaa.underlying102 rfl rfl rfl (k := 0) sz_95
set_option maxRecDepth 100000 in
theorem fld_102_9 : Fld 102 9 16 := fld_of Hvaa.underlying102 rfl rfl rfl (k := 0) sz_95
set_option maxRecDepth 100000 in
theorem fld_102_10 : Fld 102 10 17 := fld_of Hvaa.underlying102 rfl rfl rfl (k := 0) sz_95
set_option maxRecDepth 100000 in
theorem fld_102_11 : Fld 102 11 18 := fld_of Hvaa.underlying102 rfl rfl rfl (k := 0) sz_95
set_option maxRecDepth 100000 in
theorem fld_102_12 : Fld 102 12 19 := fld_of Hvaa.underlying102 rfl rfl rfl (k := 19) sz_25
set_option maxRecDepth 100000 in
theorem fld_102_13 : Fld 102 13 39 := fld_of Hvaa.underlying102 rfl rfl rfl (k := 19) sz_25
set_option maxRecDepth 100000 in
theorem fld_102_14 : Fld 102 14 59 := fld_of Hvaa.underlying102 rfl rfl rfl (k := 119) sz_31
set_option maxRecDepth 100000 in
theorem fld_104_0 : Fld 104 0 0 := fld_of Hvaa.underlying104 rfl rfl rfl (k := 178) sz_102
set_option maxRecDepth 100000 in
theorem fld_107_0 : Fld 107 0 0 := fld_of Hvaa.underlying107 rfl rfl rfl (k := 19) sz_25
set_option maxRecDepth 100000 in
theorem fld_107_1 : Fld 107 1 20 := fld_of Hvaa.underlying107 rfl rfl rfl (k := 0) sz_95
set_option maxRecDepth 100000 in
theorem fld_107_2 : Fld 107 2 21 := fld_of Hvaa.underlying107 rfl rfl rfl (k := 0) sz_95
set_option maxRecDepth 100000 in
theorem fld_107_3 : Fld 107 3 22 := fld_of Hvaa.underlying107 rfl rfl rfl (k := 0) sz_38
set_option maxRecDepth 100000 in
theorem fld_107_4 : Fld 107 4 23 := fld_of Hvaa.underlying107 rfl rfl rfl (k := 0) sz_105
set_option maxRecDepth 100000 in
theorem fld_113_0 : Fld 113 0 0 := fld_of Hvaa.underlying113 rfl rfl rfl (k := 19) sz_25
set_option maxRecDepth 100000 in
theorem fld_113_1 : Fld 113 1 20 := fld_of Hvaa.underlying113 rfl rfl rfl (k := 0) sz_26
set_option maxRecDepth 100000 in
theorem fld_113_2 : Fld 113 2 21 := fld_of Hvaa.underlying113 rfl rfl rfl (k := 31) sz_28
set_option maxRecDepth 100000 in
theorem fld_113_3 : Fld 113 3 53 := fld_of Hvaa.underlying113 rfl rfl rfl (k := 0) sz_38
set_option maxRecDepth 100000 in
theorem fld_113_4 : Fld 113 4 54 := fld_of Hvaa.underlying113 rfl rfl rfl (k := 0) sz_111
set_option maxRecDepth 100000 in
theorem fld_115_0 : Fld 115 0 0 := fld_of Hvaa.underlying115 rfl rfl rfl (k := 0) sz_95
set_option maxRecDepth 100000 in
theorem fld_115_1 : Fld 115 1 1 := fld_of Hvaa.underlying115 rfl rfl rfl (k := 0) sz_95
set_option maxRecDepth 100000 in
theorem fld_117_0 : Fld 117 0 0 := fld_of Hvaa.underlying117 rfl rfl rfl (k := 31) sz_28
set_option maxRecDepth 100000 in
theorem fld_117_1 : Fld 117 1 32 := fld_of Hvaa.underlying117 rfl rfl rfl (k := 31) sz_28
set_option maxRecDepth 100000 in
theorem fld_131_0 : Fld 131 0 0 := fld_of Hvaa.underlying131 rfl rfl rfl (k := 19) sz_25
set_option maxRecDepth 100000 in
theorem fld_131_1 : Fld 131 1 20 := fld_of Hvaa.underlying131 rfl rfl rfl (k := 0) sz_29
set_option maxRecDepth 100000 in
theorem fld_131_2 : Fld 131 2 21 := fld_of Hvaa.underlying131 rfl rfl rfl (k := 0) sz_38
set_option maxRecDepth 100000 in
theorem fld_139_0 : Fld 139 0 0 := fld_of Hvaa.underlying139 rfl rfl rfl (k := 19) sz_25
set_option maxRecDepth 100000 in
theorem fld_139_1 : Fld 139 1 20 := fld_of Hvaa.underlying139 rfl rfl rfl (k := 0) sz_95
set_option maxRecDepth 100000 in
theorem fld_139_2 : Fld 139 2 21 := fld_of Hvaa.underlying139 rfl rfl rfl (k := 0) sz_95
set_option maxRecDepth 100000 in
theorem fld_143_0 : Fld 143 0 0 := fld_of Hvaa.underlying143 rfl rfl rfl (k := 19) sz_25
set_option maxRecDepth 100000 in
theorem fld_143_1 : Fld 143 1 20 := fld_of Hvaa.underlying143 rfl rfl rfl (k := 0) sz_29
set_option maxRecDepth 100000 in
theorem fld_146_0 : Fld 146 0 0 := fld_of Hvaa.underlying146 rfl rfl rfl (k := 0) sz_5
set_option maxRecDepth 100000 in
theorem fld_146_1 : Fld 146 1 1 := fld_of Hvaa.underlying146 rfl rfl rfl (k := 0) sz_5
set_option maxRecDepth 100000 in
theorem fld_146_2 : Fld 146 2 2 := fld_of Hvaa.underlying146 rfl rfl rfl (k := 0) sz_4
set_option maxRecDepth 100000 in
theorem fld_146_3 : Fld 146 3 3 := fld_of Hvaa.underlying146 rfl rfl rfl (k := 0) sz_95
set_option maxRecDepth 100000 in
theorem fld_146_4 : Fld 146 4 4 := fld_of Hvaa.underlying146 rfl rfl rfl (k := 0) sz_95
set_option maxRecDepth 100000 in
theorem fld_146_5 : Fld 146 5 5 := fld_of Hvaa.underlying146 rfl rfl rfl (k := 0) sz_95
set_option maxRecDepth 100000 in
theorem fld_146_6 : Fld 146 6 6 := fld_of Hvaa.underlying146 rfl rfl rfl (k := 0) sz_95
set_option maxRecDepth 100000 in
theorem fld_146_7 : Fld 146 7 7 := fld_of Hvaa.underlying146 rfl rfl rfl (k := 0) sz_95
set_option maxRecDepth 100000 in
theorem fld_146_8 : Fld 146 8 8 := fld_of Hvaa.underlying146 rfl rfl rfl (k := 0) sz_144
set_option maxRecDepth 100000 in
theorem fld_146_9 : Fld 146 9 9 := fld_of Hvaa.underlying146 rfl rfl rfl (k := 0) sz_38
set_option maxRecDepth 100000 in
theorem fld_146_10 : Fld 146 10 10 := fld_of Hvaa.underlying146 rfl rfl rfl (k := 0) sz_38
set_option maxRecDepth 100000 in
theorem fld_146_11 : Fld 146 11 11 := fld_of Hvaa.underlying146 rfl rfl rfl (k := 0) sz_38
set_option maxRecDepth 100000 in
theorem fld_146_12 : Fld 146 12 12 := fld_of Hvaa.underlying146 rfl rfl rfl (k := 19) sz_25
set_option maxRecDepth 100000 in
theorem fld_146_13 : Fld 146 13 32 := fld_of Hvaa.underlying146 rfl rfl rfl (k := 19) sz_25
set_option maxRecDepth 100000 in
theorem fld_146_14 : Fld 146 14 52 := fld_of Hvaa.underlying146 rfl rfl rfl (k := 7) sz_98
set_option maxRecDepth 100000 in
theorem fld_167_0 : Fld 167 0 0 := fld_of Hvaa.underlying167 rfl rfl rfl (k := 19) sz_25
set_option maxRecDepth 100000 in
theorem fld_167_1 : Fld 167 1 20 := fld_of Hvaa.underlying167 rfl rfl rfl (k := 0) sz_26
set_option maxRecDepth 100000 in
theorem fld_167_2 : Fld 167 2 21 := fld_of Hvaa.underlying167 rfl rfl rfl (k := 3) sz_65
set_option maxRecDepth 100000 in
theorem fld_167_3 : Fld 167 3 25 := fld_of Hvaa.underlying167 rfl rfl rfl (k := 0) sz_38
set_option maxRecDepth 100000 in
theorem fld_167_4 : Fld 167 4 26 := fld_of Hvaa.underlying167 rfl rfl rfl (k := 0) sz_4
set_option maxRecDepth 100000 in
theorem fld_167_5 : Fld 167 5 27 := fld_of Hvaa.underlying167 rfl rfl rfl (k := 0) sz_4
set_option maxRecDepth 100000 in
theorem fld_167_6 : Fld 167 6 28 := fld_of Hvaa.underlying167 rfl rfl rfl (k := 0) sz_4
set_option maxRecDepth 100000 in
theorem fld_170_0 : Fld 170 0 0 := fld_of Hvaa.underlying170 rfl rfl rfl (k := 0) sz_21
set_option maxRecDepth 100000 in
theorem fld_170_1 : Fld 170 1 1 := fld_of Hvaa.underlying170 rfl rfl rfl (k := 3) sz_65
set_option maxRecDepth 100000 in
theorem fld_170_2 : Fld 170 2 5 := fld_of Hvaa.underlying170 rfl rfl rfl (k := 0) sz_21
set_option maxRecDepth 100000 in
theorem fld_176_0 : Fld 176 0 0 := fld_of Hvaa.underlying176 rfl rfl rfl (k := 0) sz_21
set_option maxRecDepth 100000 in
theorem fld_176_1 : Fld 176 1 1 := fld_of Hvaa.underlying176 rfl rfl rfl (k := 3) sz_65
set_option maxRecDepth 100000 in
theorem fld_176_2 : Fld 176 2 5 := fld_of Hvaa.underlying176 rfl rfl rfl (k := 3) sz_65
set_option maxRecDepth 100000 in
theorem fld_176_3 : Fld 176 3 9 := fld_of Hvaa.underlying176 rfl rfl rfl (k := 3) sz_65
set_option maxRecDepth 100000 in
theorem fld_176_4 : Fld 176 4 13 := fld_of Hvaa.underlying176 rfl rfl rfl (k := 0) sz_4
set_option maxRecDepth 100000 in
theorem fld_218_0 : Fld 218 0 0 := fld_of Hvaa.underlying218 rfl rfl rfl (k := 0) sz_5
set_option maxRecDepth 100000 in
theorem fld_218_1 : Fld 218 1 1 := fld_of Hvaa.underlying218 rfl rfl rfl (k := 0) sz_21
set_option maxRecDepth 100000 in
theorem fld_218_2 : Fld 218 2 2 := fld_of Hvaa.underlying218 rfl rfl rfl (k := 0) sz_26
set_option maxRecDepth 100000 in
theorem fld_218_3 : Fld 218 3 3 := fld_of Hvaa.underlying218 rfl rfl rfl (k := 3) sz_65
set_option maxRecDepth 100000 in
theorem fld_218_4 : Fld 218 4 7 := fld_of Hvaa.underlying218 rfl rfl rfl (k := 0) sz_38
set_option maxRecDepth 100000 in
theorem fld_218_5 : Fld 218 5 8 := fld_of Hvaa.underlying218 rfl rfl rfl (k := 0) sz_4
set_option maxRecDepth 100000 in
theorem fld_232_0 : Fld 232 0 0 := fld_of Hvaa.underlying232 rfl rfl rfl (k := 19) sz_25
set_option maxRecDepth 100000 in
theorem fld_232_1 : Fld 232 1 20 := fld_of Hvaa.underlying232 rfl rfl rfl (k := 0) sz_95
set_option maxRecDepth 100000 in
theorem fld_295_0 : Fld 295 0 0 := fld_of Hvaa.underlying295 rfl rfl rfl (k := 19) sz_25
set_option maxRecDepth 100000 in
theorem fld_295_1 : Fld 295 1 20 := fld_of Hvaa.underlying295 rfl rfl rfl (k := 0) sz_95
set_option maxRecDepth 100000 in
theorem fld_295_2 : Fld 295 2 21 := fld_of Hvaa.underlying295 rfl rfl rfl (k := 0) sz_95
set_option maxRecDepth 100000 in
theorem fld_407_0 : Fld 407 0 0 := fld_of Hvaa.underlying407 rfl rfl rfl (k := 0) sz_5
set_option maxRecDepth 100000 in
theorem fld_407_1 : Fld 407 1 1 := fld_of Hvaa.underlying407 rfl rfl rfl (k := 0) sz_5
set_option maxRecDepth 100000 in
theorem fld_407_2 : Fld 407 2 2 := fld_of Hvaa.underlying407 rfl rfl rfl (k := 0) sz_5
set_option maxRecDepth 100000 in
theorem fld_430_0 : Fld 430 0 0 := fld_of Hvaa.underlying430 rfl rfl rfl (k := 0) sz_21
set_option maxRecDepth 100000 in
theorem fld_430_1 : Fld 430 1 1 := fld_of Hvaa.underlying430 rfl rfl rfl (k := 3) sz_65
set_option maxRecDepth 100000 in
theorem fld_430_2 : Fld 430 2 5 := fld_of Hvaa.underlying430 rfl rfl rfl (k := 3) sz_65
theorem zr_25 : Zr 25 (.agg ((List.replicate 20 (.int .u8 0)) : List Value).toArray) := by
  show (Hvaa.prog.info? 25).bind (·.zero) = _
  kernel_rfl
theorem zr_27 : Zr 27 (.agg ((List.replicate 32 (.int .u8 0)) : List Value).toArray) := by
  show (Hvaa.prog.info? 27).bind (·.zero) = _
  kernel_rfl
theorem zr_28 : Zr 28 (.agg ((List.replicate 32 (.int .u8 0)) : List Value).toArray) := by
  show (Hvaa.prog.info? 28).bind (·.zero) = _
  kernel_rfl
theorem zr_41 : Zr 41 (.agg (([(List.replicate 20 (.int .u8 0)), (List.replicate 20 (.int .u8 0)), [.bool false], [.int .u64 0], [.int .u64 0], (List.replicate 32 (.int .u8 0)), (List.replicate 32 (.int .u8 0)), [.slice none 0 0], [.bool false], (List.replicate 32 (.int .u8 0)), (List.replicate 32 (.int .u8 0)), [.slice none 0 0]] : List (List Value)).flatten : List Value).toArray) := by
  show (Hvaa.prog.info? 41).bind (·.zero) = _
  kernel_rfl
theorem zr_44 : Zr 44 (.agg (([[.int .u8 0], [.int .u8 0], [.int .u64 0], [.slice none 0 0], [.slice none 0 0], (List.replicate 20 (.int .u8 0))] : List (List Value)).flatten : List Value).toArray) := by
  show (Hvaa.prog.info? 44).bind (·.zero) = _
  kernel_rfl
theorem zr_65 : Zr 65 (.agg ((List.replicate 4 (.int .u64 0)) : List Value).toArray) := by
  show (Hvaa.prog.info? 65).bind (·.zero) = _
  kernel_rfl
theorem zr_68 : Zr 68 (.agg ((List.replicate 8 (.int .u64 0)) : List Value).toArray) := by
  show (Hvaa.prog.info? 68).bind (·.zero) = _
  kernel_rfl
theorem zr_69 : Zr 69 (.agg ((List.replicate 8 (.int .u64 0)) : List Value).toArray) := by
  show (Hvaa.prog.info? 69).bind (·.zero) = _
  kernel_rfl
theorem zr_71 : Zr 71 (.agg (([[.int .u8 0], [.int .u8 0], [.int .u8 0], [.bool false], [.int .u16 0], [.int .u16 0], [.int .u16 0], [.int .u64 0], [.int .i32 0], (List.replicate 20 (.int .u8 0)), (List.replicate 20 (.int .u8 0)), (List.replicate 4 (.int .u64 0)), [.slice none 0 0], [.slice none 0 0], (List.replicate 8 (.int .u64 0)), [.int .u32 0], [.int .u32 0]] : List (List Value)).flatten : List Value).toArray) := by
  show (Hvaa.prog.info? 71).bind (·.zero) = _
  kernel_rfl
theorem zr_98 : Zr 98 (.agg (([[.slice none 0 0], [.slice none 0 0], [.slice none 0 0], [.slice none 0 0], [.slice none 0 0], [.slice none 0 0], [.slice none 0 0], [.slice none 0 0]] : List (List Value)).flatten : List Value).toArray) := by
  show (Hvaa.prog.info? 98).bind (·.zero) = _
  kernel_rfl
theorem zr_102 : Zr 102 (.agg (([([[.slice none 0 0], [.slice none 0 0], [.slice none 0 0], [.slice none 0 0], [.slice none 0 0], [.slice none 0 0], [.slice none 0 0], [.slice none 0 0]] : List (List Value)).flatten, [.slice none 0 0], [.slice none 0 0], [.slice none 0 0], [.int .u8 0], [.int .u8 0], [.int .u8 0], [.slice none 0 0], [.slice none 0 0], [.slice none 0 0], [.slice none 0 0], [.slice none 0 0], (List.replicate 20 (.int .u8 0)), (List.replicate 20 (.int .u8 0)), ([(List.replicate 20 (.int .u8 0)), [.int .u64 0], [.int .u64 0], [.int .u64 0], (List.replicate 32 (.int .u8 0)), (List.replicate 32 (.int .u8 0)), (List.replicate 32 (.int .u8 0)), [.slice none 0 0]] : List (List Value)).flatten] : List (List Value)).flatten : List Value).toArray) := by
  show (Hvaa.prog.info? 102).bind (·.zero) = _
  kernel_rfl
theorem zr_104 : Zr 104 (.agg (([([([[.slice none 0 0], [.slice none 0 0], [.slice none 0 0], [.slice none 0 0], [.slice none 0 0], [.slice none 0 0], [.slice none 0 0], [.slice none 0 0]] : List (List Value)).flatten, [.slice none 0 0], [.slice none 0 0], [.slice none 0 0], [.int .u8 0], [.int .u8 0], [.int .u8 0], [.slice none 0 0], [.slice none 0 0], [.slice none 0 0], [.slice none 0 0], [.slice none 0 0], (List.replicate 20 (.int .u8 0)), (List.replicate 20 (.int .u8 0)), ([(List.replicate 20 (.int .u8 0)), [.int .u64 0], [.int .u64 0], [.int .u64 0], (List.replicate 32 (.int .u8 0)), (List.replicate 32 (.int .u8 0)), (List.replicate 32 (.int .u8 0)), [.slice none 0 0]] : List (List Value)).flatten] : List (List Value)).flatten] : List (List Value)).flatten : List Value).toArray) := by
  show (Hvaa.prog.info? 104).bind (·.zero) = _
  kernel_rfl
theorem zr_107 : Zr 107 (.agg (([(List.replicate 20 (.int .u8 0)), [.slice none 0 0], [.slice none 0 0], [.slice none 0 0], [.slice none 0 0]] : List (List Value)).flatten : List Value).toArray) := by
  show (Hvaa.prog.info? 107).bind (·.zero) = _
  kernel_rfl
theorem zr_113 : Zr 113 (.agg (([(List.replicate 20 (.int .u8 0)), [.int .u64 0], (List.replicate 32 (.int .u8 0)), [.slice none 0 0], [.slice none 0 0]] : List (List Value)).flatten : List Value).toArray) := by
  show (Hvaa.prog.info? 113).bind (·.zero) = _
  kernel_rfl
theorem zr_115 : Zr 115 (.agg (([[.slice none 0 0], [.slice none 0 0]] : List (List Value)).flatten : List Value).toArray) := by
  show (Hvaa.prog.info? 115).bind (·.zero) = _
  kernel_rfl
theorem zr_117 : Zr 117 (.agg (([(List.replicate 32 (.int .u8 0)), (List.replicate 32 (.int .u8 0))] : List (List Value)).flatten : List Value).toArray) := by
  show (Hvaa.prog.info? 117).bind (·.zero) = _
  kernel_rfl
theorem zr_131 : Zr 131 (.agg (([(List.replicate 20 (.int .u8 0)), [.slice none 0 0], [.slice none 0 0]] : List (List Value)).flatten : List Value).toArray) := by
  show (Hvaa.prog.info? 131).bind (·.zero) = _
  kernel_rfl
theorem zr_139 : Zr 139 (.agg (([(List.replicate 20 (.int .u8 0)), [.slice none 0 0], [.slice none 0 0]] : List (List Value)).flatten : List Value).toArray) := by
  show (Hvaa.prog.info? 139).bind (·.zero) = _
  kernel_rfl
theorem zr_143 : Zr 143 (.agg (([(List.replicate 20 (.int .u8 0)), [.slice none 0 0]] : List (List Value)).flatten : List Value).toArray) := by
  show (Hvaa.prog.info? 143).bind (·.zero) = _
  kernel_rfl
theorem zr_146 : Zr 146 (.agg (([[.int .u8 0], [.int .u8 0], [.bool false], [.slice none 0 0], [.slice none 0 0], [.slice none 0 0], [.slice none 0 0], [.slice none 0 0], [.slice none 0 0], [.slice none 0 0], [.slice none 0 0], [.slice none 0 0], (List.replicate 20 (.int .u8 0)), (List.replicate 20 (.int .u8 0)), ([[.slice none 0 0], [.slice none 0 0], [.slice none 0 0], [.slice none 0 0], [.slice none 0 0], [.slice none 0 0], [.slice none 0 0], [.slice none 0 0]] : List (List Value)).flatten] : List (List Value)).flatten : List Value).toArray) := by
  show (Hvaa.prog.info? 146).bind (·.zero) = _
  kernel_rfl
theorem zr_170 : Zr 170 (.agg (([[.int .i32 0], (List.replicate 4 (.int .u64 0)), [.int .i32 0]] : List (List Value)).flatten : List Value).toArray) := by
  show (Hvaa.prog.info? 170).bind (·.zero) = _
  kernel_rfl
theorem zr_232 : Zr 232 (.agg (([(List.replicate 20 (.int .u8 0)), [.slice none 0 0]] : List (List Value)).flatten : List Value).toArray) := by
  show (Hvaa.prog.info? 232).bind (·.zero) = _
  kernel_rfl
theorem zr_262 : Zr 262 (.agg ((List.replicate 8 (.int .u8 0)) : List Value).toArray) := by
  show (Hvaa.prog.info? 262).bind (·.zero) = _
  kernel_rfl
theorem zr_295 : Zr 295 (.agg (([(List.replicate 20 (.int .u8 0)), [.slice none 0 0], [.slice none 0 0]] : List (List Value)).flatten : List Value).toArray) := by
  show (Hvaa.prog.info? 295).bind (·.zero) = _
  kernel_rfl
theorem zr_318 : Zr 318 (.agg ((List.replicate 25 (.int .u64 0)) : List Value).toArray) := by
  show (Hvaa.prog.info? 318).bind (·.zero) = _
  kernel_rfl
theorem zr_322 : Zr 322 (.agg ((List.replicate 136 (.int .u8 0)) : List Value).toArray) := by
  show (Hvaa.prog.info? 322).bind (·.zero) = _
  kernel_rfl
theorem zr_336 : Zr 336 (.agg ((List.replicate 8 (.int .u64 0)) : List Value).toArray) := by
  show (Hvaa.prog.info? 336).bind (·.zero) = _
  kernel_rfl
theorem zr_340 : Zr 340 (.agg ((List.replicate 64 (.int .u8 0)) : List Value).toArray) := by
  show (Hvaa.prog.info? 340).bind (·.zero) = _
  kernel_rfl
theorem zr_383 : Zr 383 (.agg ((List.replicate 1600 (.bool false)) : List Value).toArray) := by
  show (Hvaa.prog.info? 383).bind (·.zero) = _
  kernel_rfl
theorem zr_386 : Zr 386 (.agg ((List.replicate 3 (.int .u64 0)) : List Value).toArray) := by
  show (Hvaa.prog.info? 386).bind (·.zero) = _
  kernel_rfl
theorem zr_403 : Zr 403 (.agg ((List.replicate 3 (.int .i64 0)) : List Value).toArray) := by
  show (Hvaa.prog.info? 403).bind (·.zero) = _
  kernel_rfl
theorem zr_405 : Zr 405 (.agg ((List.replicate 16 (.int .u64 0)) : List Value).toArray) := by
  show (Hvaa.prog.info? 405).bind (·.zero) = _
  kernel_rfl
theorem zr_407 : Zr 407 (.agg (([[.int .u8 0], [.int .u8 0], [.int .u8 0]] : List (List Value)).flatten : List Value).toArray) := by
  show (Hvaa.prog.info? 407).bind (·.zero) = _
  kernel_rfl
theorem zr_428 : Zr 428 (.agg ((List.replicate 85 (.int .u8 0)) : List Value).toArray) := by
  show (Hvaa.prog.info? 428).bind (·.zero) = _
  kernel_rfl
theorem zr_435 : Zr 435 (.agg ((List.replicate 64 (.bool false)) : List Value).toArray) := by
  show (Hvaa.prog.info? 435).bind (·.zero) = _
  kernel_rfl
theorem zr_436 : Zr 436 (.agg ((List.replicate 5 ((List.replicate 64 (.bool false))) : List (List Value)).flatten : List Value).toArray) := by
  show (Hvaa.prog.info? 436).bind (·.zero) = _
  kernel_rfl
theorem zr_438 : Zr 438 (.agg ((List.replicate 5 ((List.replicate 5 ((List.replicate 64 (.bool false))) : List (List Value)).flatten) : List (List Value)).flatten : List Value).toArray) := by
  show (Hvaa.prog.info? 438).bind (·.zero) = _
  kernel_rfl
theorem zr_447 : Zr 447 (.agg ((List.replicate 17 (.int .u64 0)) : List Value).toArray) := by
  show (Hvaa.prog.info? 447).bind (·.zero) = _
  kernel_rfl
theorem zr_468 : Zr 468 (.agg ((List.replicate 9 (.int .u64 0)) : List Value).toArray) := by
  show (Hvaa.prog.info? 468).bind (·.zero) = _
  kernel_rfl
theorem zr_473 : Zr 473 (.agg ((List.replicate 8 (.bool false)) : List Value).toArray) := by
  show (Hvaa.prog.info? 473).bind (·.zero) = _
  kernel_rfl
set_option maxRecDepth 100000 in
theorem cal_4 : Cal 4 := cal_of Hvaa.func4 (by kernel_rfl) rfl
set_option maxRecDepth 100000 in
theorem cal_5 : Cal 5 := cal_of Hvaa.func5 (by kernel_rfl) rfl
set_option maxRecDepth 100000 in
theorem cal_6 : Cal 6 := cal_of Hvaa.func6 (by kernel_rfl) rfl
set_option maxRecDepth 100000 in
theorem cal_7 : Cal 7 := cal_of Hvaa.func7 (by kernel_rfl) rfl
set_option maxRecDepth 100000 in
theorem cal_8 : Cal 8 := cal_of Hvaa.func8 (by kernel_rfl) rfl
set_option maxRecDepth 100000 in
theorem cal_9 : Cal 9 := cal_of Hvaa.func9 (by kernel_rfl) rfl
set_option maxRecDepth 100000 in
theorem cal_10 : Cal 10 := cal_of Hvaa.func10 (by kernel_rfl) rfl
set_option maxRecDepth 100000 in
theorem cal_11 : Cal 11 := cal_of Hvaa.func11 (by kernel_rfl) rfl
set_option maxRecDepth 100000 in
theorem cal_12 : Cal 12 := cal_of Hvaa.func12 (by kernel_rfl) rfl
set_option maxRecDepth 100000 in
theorem cal_13 : Cal 13 := cal_of Hvaa.func13 (by kernel_rfl) rfl
set_option maxRecDepth 100000 in
theorem cal_14 : Cal 14 := cal_of Hvaa.func14 (by kernel_rfl) rfl
set_option maxRecDepth 100000 in
theorem cal_15 : Cal 15 := cal_of Hvaa.func15 (by kernel_rfl) rfl
set_option maxRecDepth 100000 in
theorem cal_16 : Cal 16 := cal_of Hvaa.func16 (by kernel_rfl) rfl
set_option maxRecDepth 100000 in
theorem cal_17 : Cal 17 := cal_of Hvaa.func17 (by kernel_rfl) rfl
set_option maxRecDepth 100000 in
theorem cal_18 : Cal 18 := cal_of Hvaa.func18 (by kernel_rfl) rfl
set_option maxRecDepth 100000 in
theorem cal_19 : Cal 19 := cal_of Hvaa.func19 (by kernel_rfl) rfl
set_option maxRecDepth 100000 in
theorem cal_20 : Cal 20 := cal_of Hvaa.func20 (by kernel_rfl) rfl
set_option maxRecDepth 100000 in
theorem cal_21 : Cal 21 := cal_of Hvaa.func21 (by kernel_rfl) rfl
set_option maxRecDepth 100000 in
theorem cal_22 : Cal 22 := cal_of Hvaa.func22 (by kernel_rfl) rfl
set_option maxRecDepth 100000 in
theorem cal_23 : Cal 23 := cal_of Hvaa.func23 (by kernel_rfl) rfl
set_option maxRecDepth 100000 in
theorem cal_24 : Cal 24 := cal_of Hvaa.func24 (by kernel_rfl) rfl
set_option maxRecDepth 100000 in
theorem cal_25 : Cal 25 := cal_of Hvaa.func25 (by kernel_rfl) rfl
set_option maxRecDepth 100000 in
theorem cal_26 : Cal 26 := cal_of Hvaa.func26 (by kernel_rfl) rfl
set_option maxRecDepth 100000 in
theorem cal_27 : Cal 27 := cal_of Hvaa.func27 (by kernel_rfl) rfl
set_option maxRecDepth 100000 in
theorem cal_28 : Cal 28 := cal_of Hvaa.func28 (by kernel_rfl) rfl
set_option maxRecDepth 100000 in
theorem cal_29 : Cal 29 := cal_of Hvaa.func29 (by kernel_rfl) rfl
set_option maxRecDepth 100000 in
theorem cal_30 : Cal 30 := cal_of Hvaa.func30 (by kernel_rfl) rfl
set_option maxRecDepth 100000 in
theorem cal_31 : Cal 31 := cal_of Hvaa.func31 (by kernel_rfl) rfl
set_option maxRecDepth 100000 in
theorem cal_32 : Cal 32 := cal_of Hvaa.func32 (by kernel_rfl) rfl
set_option maxRecDepth 100000 in
theorem cal_33 : Cal 33 := cal_of Hvaa.func33 (by kernel_rfl) rfl
set_option maxRecDepth 100000 in
theorem cal_34 : Cal 34 := cal_of Hvaa.func34 (by kernel_rfl) rfl
set_option maxRecDepth 100000 in
theorem cal_35 : Cal 35 := cal_of Hvaa.func35 (by kernel_rfl) rfl
set_option maxRecDepth 100000 in
theorem cal_36 : Cal 36 := cal_of Hvaa.func36 (by kernel_rfl) rfl
set_option maxRecDepth 100000 in
theorem cal_37 : Cal 37 := cal_of Hvaa.func37 (by kernel_rfl) rfl
set_option maxRecDepth 100000 in
theorem cal_39 : Cal 39 := cal_of Hvaa.func39 (by kernel_rfl) rfl
set_option maxRecDepth 100000 in
theorem cal_40 : Cal 40 := cal_of Hvaa.func40 (by kernel_rfl) rfl
set_option maxRecDepth 100000 in
theorem cal_41 : Cal 41 := cal_of Hvaa.func41 (by kernel_rfl) rfl
set_option maxRecDepth 100000 in
theorem cal_42 : Cal 42 := cal_of Hvaa.func42 (by kernel_rfl) rfl
set_option maxRecDepth 100000 in
theorem cal_43 : Cal 43 := cal_of Hvaa.func43 (by kernel_rfl) rfl
set_option maxRecDepth 100000 in
theorem cal_44 : Cal 44 := cal_of Hvaa.func44 (by kernel_rfl) rfl
set_option maxRecDepth 100000 in
theorem cal_45 : Cal 45 := cal_of Hvaa.func45 (by kernel_rfl) rfl
set_option maxRecDepth 100000 in
theorem cal_46 : Cal 46 := cal_of Hvaa.func46 (by kernel_rfl) rfl
set_option maxRecDepth 100000 in
theorem cal_47 : Cal 47 := cal_of Hvaa.func47 (by kernel_rfl) rfl
set_option maxRecDepth 100000 in
theorem cal_48 : Cal 48 := cal_of Hvaa.func48 (by kernel_rfl) rfl
set_option maxRecDepth 100000 in
theorem cal_49 : Cal 49 := cal_of Hvaa.func49 (by kernel_rfl) rfl
set_option maxRecDepth 100000 in
theorem cal_50 : Cal 50 := cal_of Hvaa.func50 (by kernel_rfl) rfl
set_option maxRecDepth 100000 in
theorem cal_51 : Cal 51 := cal_of Hvaa.func51 (by kernel_rfl) rfl
set_option maxRecDepth 100000 in
theorem cal_52 : Cal 52 := cal_of Hvaa.func52 (by kernel_rfl) rfl
set_option maxRecDepth 100000 in
theorem cal_53 : Cal 53 := cal_of Hvaa.func53 (by kernel_rfl) rfl
set_option maxRecDepth 100000 in
theorem cal_54 : Cal 54 := cal_of Hvaa.func54 (by kernel_rfl) rfl
set_option maxRecDepth 100000 in
theorem cal_55 : Cal 55 := cal_of Hvaa.func55 (by kernel_rfl) rfl
set_option maxRecDepth 100000 in
theorem cal_56 : Cal 56 := cal_of Hvaa.func56 (by kernel_rfl) rfl
set_option maxRecDepth 100000 in
theorem cal_57 : Cal 57 := cal_of Hvaa.func57 (by kernel_rfl) rfl
set_option maxRecDepth 100000 in
theorem cal_58 : Cal 58 := cal_of Hvaa.func58 (by kernel_rfl) rfl
set_option maxRecDepth 100000 in
theorem cal_59 : Cal 59 := cal_of Hvaa.func59 (by kernel_rfl) rfl
set_option maxRecDepth 100000 in
theorem cal_60 : Cal 60 := cal_of Hvaa.func60 (by kernel_rfl) rfl
set_option maxRecDepth 100000 in
theorem cal_61 : Cal 61 := cal_of Hvaa.func61 (by kernel_rfl) rfl
set_option maxRecDepth 100000 in
theorem cal_62 : Cal 62 := cal_of Hvaa.func62 (by kernel_rfl) rfl
set_option maxRecDepth 100000 in
theorem cal_63 : Cal 63 := cal_of Hvaa.func63 (by kernel_rfl) rfl
set_option maxRecDepth 100000 in
theorem cal_64 : Cal 64 := cal_of Hvaa.func64 (by kernel_rfl) rfl
set_option maxRecDepth 100000 in
theorem cal_65 : Cal 65 := cal_of Hvaa.func65 (by kernel_rfl) rfl
set_option maxRecDepth 100000 in
theorem cal_66 : Cal 66 := cal_of Hvaa.func66 (by kernel_rfl) rfl
set_option maxRecDepth 100000 in
theorem cal_67 : Cal 67 := cal_of Hvaa.func67 (by kernel_rfl) rfl
set_option maxRecDepth 100000 in
theorem cal_68 : Cal 68 := cal_of Hvaa.func68 (by kernel_rfl) rfl
set_option maxRecDepth 100000 in
theorem cal_69 : Cal 69 := cal_of Hvaa.func69 (by kernel_rfl) rfl
set_option maxRecDepth 100000 in
theorem cal_70 : Cal 70 := cal_of Hvaa.func70 (by kernel_rfl) rfl
set_option maxRecDepth 100000 in
theorem cal_71 : Cal 71 := cal_of Hvaa.func71 (by kernel_rfl) rfl
set_option maxRecDepth 100000 in
theorem cal_72 : Cal 72 := cal_of Hvaa.func72 (by kernel_rfl) rfl
set_option maxRecDepth 100000 in
theorem cal_73 : Cal 73 := cal_of Hvaa.func73 (by kernel_rfl) rfl
set_option maxRecDepth 100000 in
theorem cal_74 : Cal 74 := cal_of Hvaa.func74 (by kernel_rfl) rfl
set_option maxRecDepth 100000 in
theorem cal_75 : Cal 75 := cal_of Hvaa.func75 (by kernel_rfl) rfl
set_option maxRecDepth 100000 in
theorem cal_76 : Cal 76 := cal_of Hvaa.func76 (by kernel_rfl) rfl
set_option maxRecDepth 100000 in
theorem cal_77 : Cal 77 := cal_of Hvaa.func77 (by kernel_rfl) rfl
set_option maxRecDepth 100000 in
theorem cal_78 : Cal 78 := cal_of Hvaa.func78 (by kernel_rfl) rfl
set_option maxRecDepth 100000 in
theorem cal_79 : Cal 79 := cal_of Hvaa.func79 (by kernel_rfl) rfl
set_option maxRecDepth 100000 in
theorem cal_80 : Cal 80 := cal_of Hvaa.func80 (by kernel_rfl) rfl
set_option maxRecDepth 100000 in
theorem cal_81 : Cal 81 := cal_of Hvaa.func81 (by kernel_rfl) rfl
set_option maxRecDepth 100000 in
theorem cal_82 : Cal 82 := cal_of Hvaa.func82 (by kernel_rfl) rfl
set_option maxRecDepth 100000 in
theorem cal_83 : Cal 83 := cal_of Hvaa.func83 (by kernel_rfl) rfl
set_option maxRecDepth 100000 in
theorem cal_84 : Cal 84 := cal_of Hvaa.func84 (by kernel_rfl) rfl
set_option maxRecDepth 100000 in
theorem cal_85 : Cal 85 := cal_of Hvaa.func85 (by kernel_rfl) rfl
set_option maxRecDepth 100000 in
theorem cal_86 : Cal 86 := cal_of Hvaa.func86 (by kernel_rfl) rfl
set_option maxRecDepth 100000 in
theorem cal_87 : Cal 87 := cal_of Hvaa.func87 (by kernel_rfl) rfl
set_option maxRecDepth 100000 in
theorem cal_88 : Cal 88 := cal_of Hvaa.func88 (by kernel_rfl) rfl
set_option maxRecDepth 100000 in
theorem cal_89 : Cal 89 := cal_of Hvaa.func89 (by kernel_rfl) rfl
set_option maxRecDepth 100000 in
theorem cal_90 : Cal 90 := cal_of Hvaa.func90 (by kernel_rfl) rfl
set_option maxRecDepth 100000 in
theorem cal_91 : Cal 91 := cal_of Hvaa.func91 (by kernel_rfl) rfl
set_option maxRecDepth 100000 in
theorem cal_92 : Cal 92 := cal_of Hvaa.func92 (by kernel_rfl) rfl
set_option maxRecDepth 100000 in
theorem cal_93 : Cal 93 := cal_of Hvaa.func93 (by kernel_rfl) rfl
set_option maxRecDepth 100000 in
theorem cal_94 : Cal 94 := cal_of Hvaa.func94 (by kernel_rfl) rfl
set_option maxRecDepth 100000 in
theorem cal_95 : Cal 95 := cal_of Hvaa.func95 (by kernel_rfl) rfl
set_option maxRecDepth 100000 in
theorem cal_96 : Cal 96 := cal_of Hvaa.func96 (by kernel_rfl) rfl
set_option maxRecDepth 100000 in
theorem cal_97 : Cal 97 := cal_of Hvaa.func97 (by kernel_rfl) rfl
set_option maxRecDepth 100000 in
theorem cal_98 : Cal 98 := cal_of Hvaa.func98 (by kernel_rfl) rfl
set_option maxRecDepth 100000 in
theorem cal_99 : Cal 99 := cal_of Hvaa.func99 (by kernel_rfl) rfl
set_option maxRecDepth 100000 in
theorem cal_100 : Cal 100 := cal_of Hvaa.func100 (by kernel_rfl) rfl
set_option maxRecDepth 100000 in
theorem cal_101 : Cal 101 := cal_of Hvaa.func101 (by kernel_rfl) rfl
set_option maxRecDepth 100000 in
theorem cal_102 : Cal 102 := cal_of Hvaa.func102 (by kernel_rfl) rfl
set_option maxRecDepth 100000 in
theorem cal_103 : Cal 103 := cal_of Hvaa.func103 (by kernel_rfl) rfl
set_option maxRecDepth 100000 in
theorem cal_104 : Cal 104 := cal_of Hvaa.func104 (by kernel_rfl) rfl
set_option maxRecDepth 100000 in
theorem cal_105 : Cal 105 := cal_of Hvaa.func105 (by kernel_rfl) rfl
set_option maxRecDepth 100000 in
theorem cal_106 : Cal 106 := cal_of Hvaa.func106 (by kernel_rfl) rfl
set_option maxRecDepth 100000 in
theorem cal_107 : Cal 107 := cal_of Hvaa.func107 (by kernel_rfl) rfl
set_option maxRecDepth 100000 in
theorem cal_108 : Cal 108 := cal_of Hvaa.func108 (by kernel_rfl) rfl
set_option maxRecDepth 100000 in
theorem cal_109 : Cal 109 := cal_of Hvaa.func109 (by kernel_rfl) rfl
set_option maxRecDepth 100000 in
theorem cal_110 : Cal 110 := cal_of Hvaa.func110 (by kernel_rfl) rfl
set_option maxRecDepth 100000 in
theorem cal_111 : Cal 111 := cal_of Hvaa.func111 (by kernel_rfl) rfl
set_option maxRecDepth 100000 in
theorem cal_112 : Cal 112 := cal_of Hvaa.func112 (by kernel_rfl) rfl
set_option maxRecDepth 100000 in
theorem cal_113 : Cal 113 := cal_of Hvaa.func113 (by kernel_rfl) rfl
set_option maxRecDepth 100000 in
theorem cal_114 : Cal 114 := cal_of Hvaa.func114 (by kernel_rfl) rfl
set_option maxRecDepth 100000 in
theorem cal_115 : Cal 115 := cal_of Hvaa.func115 (by kernel_rfl) rfl
set_option maxRecDepth 100000 in
theorem cal_119 : Cal 119 := cal_of Hvaa.func119 (by kernel_rfl) rfl
set_option maxRecDepth 100000 in
theorem cal_120 : Cal 120 := cal_of Hvaa.func120 (by kernel_rfl) rfl
set_option maxRecDepth 100000 in
theorem cal_121 : Cal 121 := cal_of Hvaa.func121 (by kernel_rfl) rfl
set_option maxRecDepth 100000 in
theorem cal_122 : Cal 122 := cal_of Hvaa.func122 (by kernel_rfl) rfl
set_option maxRecDepth 100000 in
theorem cal_123 : Cal 123 := cal_of Hvaa.func123 (by kernel_rfl) rfl
set_option maxRecDepth 100000 in
theorem cal_124 : Cal 124 := cal_of Hvaa.func124 (by kernel_rfl) rfl
set_option maxRecDepth 100000 in
theorem cal_125 : Cal 125 := cal_of Hvaa.func125 (by kernel_rfl) rfl
set_option maxRecDepth 100000 in
theorem cal_126 : Cal 126 := cal_of Hvaa.func126 (by kernel_rfl) rfl
set_option maxRecDepth 100000 in
theorem cal_127 : Cal 127 := cal_of Hvaa.func127 (by kernel_rfl) rfl
set_option maxRecDepth 100000 in
theorem cal_128 : Cal 128 := cal_of Hvaa.func128 (by kernel_rfl) rfl
set_option maxRecDepth 100000 in
theorem cal_129 : Cal 129 := cal_of Hvaa.func129 (by kernel_rfl) rfl
set_option maxRecDepth 100000 in
theorem cal_130 : Cal 130 := cal_of Hvaa.func130 (by kernel_rfl) rfl
set_option maxRecDepth 100000 in
theorem cal_131 : Cal 131 := cal_of Hvaa.func131 (by kernel_rfl) rfl
set_option maxRecDepth 100000 in
theorem cal_132 : Cal 132 := cal_of Hvaa.func132 (by kernel_rfl) rfl
set_option maxRecDepth 100000 in
theorem cal_133 : Cal 133 := cal_of Hvaa.func133 (by kernel_rfl) rfl
set_option maxRecDepth 100000 in
theorem cal_134 : Cal 134 := cal_of Hvaa.func134 (by kernel_rfl) rfl
set_option maxRecDepth 100000 in
theorem cal_135 : Cal 135 := cal_of Hvaa.func135 (by kernel_rfl) rfl
set_option maxRecDepth 100000 in
theorem cal_136 : Cal 136 := cal_of Hvaa.func136 (by kernel_rfl) rfl
set_option maxRecDepth 100000 in
theorem cal_137 : Cal 137 := cal_of Hvaa.func137 (by kernel_rfl) rfl
set_option maxRecDepth 100000 in
theorem cal_138 : Cal 138 := cal_of Hvaa.func138 (by kernel_rfl) rfl
set_option maxRecDepth 100000 in
theorem cal_139 : Cal 139 := cal_of Hvaa.func139 (by kernel_rfl) rfl
set_option maxRecDepth 100000 in
theorem cal_140 : Cal 140 := cal_of Hvaa.func140 (by kernel_rfl) rfl
set_option maxRecDepth 100000 in
theorem cal_141 : Cal 141 := cal_of Hvaa.func141 (by kernel_rfl) rfl
set_option maxRecDepth 100000 in
theorem cal_142 : Cal 142 := cal_of Hvaa.func142 (by kernel_rfl) rfl
set_option maxRecDepth 100000 in
theorem cal_143 : Cal 143 := cal_of Hvaa.func143 (by kernel_rfl) rfl
set_option maxRecDepth 100000 in
theorem cal_144 : Cal 144 := cal_of Hvaa.func144 (by kernel_rfl) rfl
set_option maxRecDepth 100000 in
theorem cal_145 : Cal 145 := cal_of Hvaa.func145 (by kernel_rfl) rfl
set_option maxRecDepth 100000 in
theorem cal_146 : Cal 146 := cal_of Hvaa.func146 (by kernel_rfl) rfl
set_option maxRecDepth 100000 in
theorem cal_147 : Cal 147 := cal_of Hvaa.func147 (by kernel_rfl) rfl
set_option maxRecDepth 100000 in
theorem cal_148 : Cal 148 := cal_of Hvaa.func148 (by kernel_rfl) rfl
set_option maxRecDepth 100000 in
theorem cal_149 : Cal 149 := cal_of Hvaa.func149 (by kernel_rfl) rfl
set_option maxRecDepth 100000 in
theorem cal_150 : Cal 150 := cal_of Hvaa.func150 (by kernel_rfl) rfl
set_option maxRecDepth 100000 in
theorem cal_151 : Cal 151 := cal_of Hvaa.func151 (by kernel_rfl) rfl
set_option maxRecDepth 100000 in
theorem cal_152 : Cal 152 := cal_of Hvaa.func152 (by kernel_rfl) rfl
set_option maxRecDepth 100000 in
theorem cal_153 : Cal 153 := cal_of Hvaa.func153 (by kernel_rfl) rfl
set_option maxRecDepth 100000 in
theorem cal_154 : Cal 154 := cal_of Hvaa.func154 (by kernel_rfl) rfl
set_option maxRecDepth 100000 in
theorem cal_155 : Cal 155 := cal_of Hvaa.func155 (by kernel_rfl) rfl
set_option maxRecDepth 100000 in
theorem cal_156 : Cal 156 := cal_of Hvaa.func156 (by kernel_rfl) rfl
set_option maxRecDepth 100000 in
theorem cal_157 : Cal 157 := cal_of Hvaa.func157 (by kernel_rfl) rfl
set_option maxRecDepth 100000 in
theorem cal_158 : Cal 158 := cal_of Hvaa.func158 (by kernel_rfl) rfl
set_option maxRecDepth 100000 in
theorem cal_159 : Cal 159 := cal_of Hvaa.func159 (by kernel_rfl) rfl
set_option maxRecDepth 100000 in
theorem cal_160 : Cal 160 := cal_of Hvaa.func160 (by kernel_rfl) rfl
set_option maxRecDepth 100000 in
theorem cal_161 : Cal 161 := cal_of Hvaa.func161 (by kernel_rfl) rfl
set_option maxRecDepth 100000 in
theorem cal_162 : Cal 162 := cal_of Hvaa.func162 (by kernel_rfl) rfl
set_option maxRecDepth 100000 in
theorem cal_163 : Cal 163 := cal_of Hvaa.func163 (by kernel_rfl) rfl
set_option maxRecDepth 100000 in
theorem cal_164 : Cal 164 := cal_of Hvaa.func164 (by kernel_rfl) rfl
set_option maxRecDepth 100000 in
theorem cal_165 : Cal 165 := cal_of Hvaa.func165 (by kernel_rfl) rfl
set_option maxRecDepth 100000 in
theorem cal_166 : Cal 166 := cal_of Hvaa.func166 (by kernel_rfl) rfl
set_option maxRecDepth 100000 in
theorem cal_167 : Cal 167 := cal_of Hvaa.func167 (by kernel_rfl) rfl
set_option maxRecDepth 100000 in
theorem cal_168 : Cal 168 := cal_of Hvaa.func168 (by kernel_rfl) rfl
set_option maxRecDepth 100000 in
theorem cal_169 : Cal 169 := cal_of Hvaa.func169 (by kernel_rfl) rfl
set_option maxRecDepth 100000 in
theorem cal_170 : Cal 170 := cal_of Hvaa.func170 (by kernel_rfl) rfl
set_option maxRecDepth 100000 in
theorem cal_171 : Cal 171 := cal_of Hvaa.func171 (by kernel_rfl) rfl
set_option maxRecDepth 100000 in
theorem cal_172 : Cal 172 := cal_of Hvaa.func172 (by kernel_rfl) rfl
set_option maxRecDepth 100000 in
theorem cal_173 : Cal 173 := cal_of Hvaa.func173 (by kernel_rfl) rfl
set_option maxRecDepth 100000 in
theorem cal_174 : Cal 174 := cal_of Hvaa.func174 (by kernel_rfl) rfl
set_option maxRecDepth 100000 in
theorem cal_175 : Cal 175 := cal_of Hvaa.func175 (by kernel_rfl) rfl
set_option maxRecDepth 100000 in
theorem cal_176 : Cal 176 := cal_of Hvaa.func176 (by kernel_rfl) rfl
set_option maxRecDepth 100000 in
theorem cal_177 : Cal 177 := cal_of Hvaa.func177 (by kernel_rfl) rfl
set_option maxRecDepth 100000 in
theorem cal_178 : Cal 178 := cal_of Hvaa.func178 (by kernel_rfl) rfl
set_option maxRecDepth 100000 in
theorem cal_179 : Cal 179 := cal_of Hvaa.func179 (by kernel_rfl) rfl
set_option maxRecDepth 100000 in
theorem cal_180 : Cal 180 := cal_of Hvaa.func180 (by kernel_rfl) rfl
set_option maxRecDepth 100000 in
theorem cal_181 : Cal 181 := cal_of Hvaa.func181 (by kernel_rfl) rfl
set_option maxRecDepth 100000 in
theorem cal_182 : Cal 182 := cal_of Hvaa.func182 (by kernel_rfl) rfl
set_option maxRecDepth 100000 in
theorem cal_183 : Cal 183 := cal_of Hvaa.func183 (by kernel_rfl) rfl
set_option maxRecDepth 100000 in
theorem cal_184 : Cal 184 := cal_of Hvaa.func184 (by kernel_rfl) rfl
set_option maxRecDepth 100000 in
theorem cal_185 : Cal 185 := cal_of Hvaa.func185 (by kernel_rfl) rfl
set_option maxRecDepth 100000 in
theorem cal_186 : Cal 186 := cal_of Hvaa.func186 (by kernel_rfl) rfl
set_option maxRecDepth 100000 in
theorem cal_187 : Cal 187 := cal_of Hvaa.func187 (by kernel_rfl) rfl
set_option maxRecDepth 100000 in
theorem cal_188 : Cal 188 := cal_of Hvaa.func188 (by kernel_rfl) rfl
set_option maxRecDepth 100000 in
theorem cal_189 : Cal 189 := cal_of Hvaa.func189 (by kernel_rfl) rfl
set_option maxRecDepth 100000 in
theorem cal_190 : Cal 190 := cal_of Hvaa.func190 (by kernel_rfl) rfl
set_option maxRecDepth 100000 in
theorem cal_191 : Cal 191 := cal_of Hvaa.func191 (by kernel_rfl) rfl
set_option maxRecDepth 100000 in
theorem cal_192 : Cal 192 := cal_of Hvaa.func192 (by kernel_rfl) rfl
set_option maxRecDepth 100000 in
theorem cal_193 : Cal 193 := cal_of Hvaa.func193 (by kernel_rfl) rfl
set_option maxRecDepth 100000 in
theorem cal_194 : Cal 194 := cal_of Hvaa.func194 (by kernel_rfl) rfl
set_option maxRecDepth 100000 in
theorem cal_195 : Cal 195 := cal_of Hvaa.func195 (by kernel_rfl) rfl
set_option maxRecDepth 100000 in
theorem cal_196 : Cal 196 := cal_of Hvaa.func196 (by kernel_rfl) rfl
set_option maxRecDepth 100000 in
theorem cal_197 : Cal 197 := cal_of Hvaa.func197 (by kernel_rfl) rfl
set_option maxRecDepth 100000 in
theorem cal_198 : Cal 198 := cal_of Hvaa.func198 (by kernel_rfl) rfl
set_option maxRecDepth 100000 in
theorem cal_199 : Cal 199 := cal_of Hvaa.func199 (by kernel_rfl) rfl
set_option maxRecDepth 100000 in
theorem cal_200 : Cal 200 := cal_of Hvaa.func200 (by kernel_rfl) rfl
set_option maxRecDepth 100000 in
theorem cal_201 : Cal 201 := cal_of Hvaa.func201 (by kernel_rfl) rfl
set_option maxRecDepth 100000 in
theorem cal_202 : Cal 202 := cal_of Hvaa.func202 (by kernel_rfl) rfl
set_option maxRecDepth 100000 in
theorem cal_203 : Cal 203 := cal_of Hvaa.func203 (by kernel_rfl) rfl
set_option maxRecDepth 100000 in
theorem cal_204 : Cal 204 := cal_of Hvaa.func204 (by kernel_rfl) rfl
set_option maxRecDepth 100000 in
theorem cal_205 : Cal 205 := cal_of Hvaa.func205 (by kernel_rfl) rfl
set_option maxRecDepth 100000 in
theorem cal_206 : Cal 206 := cal_of Hvaa.func206 (by kernel_rfl) rfl
set_option maxRecDepth 100000 in
theorem cal_207 : Cal 207 := cal_of Hvaa.func207 (by kernel_rfl) rfl
set_option maxRecDepth 100000 in
theorem cal_215 : Cal 215 := cal_of Hvaa.func215 (by kernel_rfl) rfl
set_option maxRecDepth 100000 in
theorem cal_216 : Cal 216 := cal_of Hvaa.func216 (by kernel_rfl) rfl
set_option maxRecDepth 100000 in
theorem cal_217 : Cal 217 := cal_of Hvaa.func217 (by kernel_rfl) rfl
set_option maxRecDepth 100000 in
theorem cal_218 : Cal 218 := cal_of Hvaa.func218 (by kernel_rfl) rfl
set_option maxRecDepth 100000 in
theorem cal_219 : Cal 219 := cal_of Hvaa.func219 (by kernel_rfl) rfl
set_option maxRecDepth 100000 in
theorem cal_220 : Cal 220 := cal_of Hvaa.func220 (by kernel_rfl) rfl
set_option maxRecDepth 100000 in
theorem cal_221 : Cal 221 := cal_of Hvaa.func221 (by kernel_rfl) rfl
set_option maxRecDepth 100000 in
theorem cal_222 : Cal 222 := cal_of Hvaa.func222 (by kernel_rfl) rfl
set_option maxRecDepth 100000 in
theorem cal_223 : Cal 223 := cal_of Hvaa.func223 (by kernel_rfl) rfl
set_option maxRecDepth 100000 in
theorem cal_224 : Cal 224 := cal_of Hvaa.func224 (by kernel_rfl) rfl
set_option maxRecDepth 100000 in
theorem cal_225 : Cal 225 := cal_of Hvaa.func225 (by kernel_rfl) rfl
set_option maxRecDepth 100000 in
theorem cal_226 : Cal 226 := cal_of Hvaa.func226 (by kernel_rfl) rfl
set_option maxRecDepth 100000 in
theorem cal_227 : Cal 227 := cal_of Hvaa.func227 (by kernel_rfl) rfl
set_option maxRecDepth 100000 in
theorem cal_228 : Cal 228 := cal_of Hvaa.func228 (by kernel_rfl) rfl
set_option maxRecDepth 100000 in
theorem cal_229 : Cal 229 := cal_of Hvaa.func229 (by kernel_rfl) rfl
set_option maxRecDepth 100000 in
theorem cal_230 : Cal 230 := cal_of Hvaa.func230 (by kernel_rfl) rfl
set_option maxRecDepth 100000 in
theorem cal_231 : Cal 231 := cal_of Hvaa.func231 (by kernel_rfl) rfl
set_option maxRecDepth 100000 in
theorem cal_232 : Cal 232 := cal_of Hvaa.func232 (by kernel_rfl) rfl
set_option maxRecDepth 100000 in
theorem cal_233 : Cal 233 := cal_of Hvaa.func233 (by kernel_rfl) rfl
set_option maxRecDepth 100000 in
theorem cal_234 : Cal 234 := cal_of Hvaa.func234 (by kernel_rfl) rfl
set_option maxRecDepth 100000 in
theorem cal_235 : Cal 235 := cal_of Hvaa.func235 (by kernel_rfl) rfl
set_option maxRecDepth 100000 in
theorem cal_236 : Cal 236 := cal_of Hvaa.func236 (by kernel_rfl) rfl
set_option maxRecDepth 100000 in
theorem cal_237 : Cal 237 := cal_of Hvaa.func237 (by kernel_rfl) rfl
set_option maxRecDepth 100000 in
theorem cal_238 : Cal 238 := cal_of Hvaa.func238 (by kernel_rfl) rfl
set_option maxRecDepth 100000 in
theorem cal_239 : Cal 239 := cal_of Hvaa.func239 (by kernel_rfl) rfl
set_option maxRecDepth 100000 in
theorem cal_240 : Cal 240 := cal_of Hvaa.func240 (by kernel_rfl) rfl
set_option maxRecDepth 100000 in
theorem cal_241 : Cal 241 := cal_of Hvaa.func241 (by kernel_rfl) rfl
set_option maxRecDepth 100000 in
theorem cal_242 : Cal 242 := cal_of Hvaa.func242 (by kernel_rfl) rfl
set_option maxRecDepth 100000 in
theorem cal_243 : Cal 243 := cal_of Hvaa.func243 (by kernel_rfl) rfl
set_option maxRecDepth 100000 in
theorem cal_244 : Cal 244 := cal_of Hvaa.func244 (by kernel_rfl) rfl
set_option maxRecDepth 100000 in
theorem cal_246 : Cal 246 := cal_of Hvaa.func246 (by kernel_rfl) rfl
set_option maxRecDepth 100000 in
theorem cal_247 : Cal 247 := cal_of Hvaa.func247 (by kernel_rfl) rfl
set_option maxRecDepth 100000 in
theorem cal_248 : Cal 248 := cal_of Hvaa.func248 (by kernel_rfl) rfl
set_option maxRecDepth 100000 in
theorem cal_249 : Cal 249 := cal_of Hvaa.func249 (by kernel_rfl) rfl
set_option maxRecDepth 100000 in
theorem cal_250 : Cal 250 := cal_of Hvaa.func250 (by kernel_rfl) rfl
set_option maxRecDepth 100000 in
theorem cal_251 : Cal 251 := cal_of Hvaa.func251 (by kernel_rfl) rfl
set_option maxRecDepth 100000 in
theorem cal_252 : Cal 252 := cal_of Hvaa.func252 (by kernel_rfl) rfl
set_option maxRecDepth 100000 in
theorem cal_253 : Cal 253 := cal_of Hvaa.func253 (by kernel_rfl) rfl
set_option maxRecDepth 100000 in
theorem cal_254 : Cal 254 := cal_of Hvaa.func254 (by kernel_rfl) rfl
set_option maxRecDepth 100000 in
theorem cal_255 : Cal 255 := cal_of Hvaa.func255 (by kernel_rfl) rfl
set_option maxRecDepth 100000 in
theorem cal_256 : Cal 256 := cal_of Hvaa.func256 (by kernel_rfl) rfl
set_option maxRecDepth 100000 in
theorem cal_257 : Cal 257 := cal_of Hvaa.func257 (by kernel_rfl) rfl
set_option maxRecDepth 100000 in
theorem cal_258 : Cal 258 := cal_of Hvaa.func258 (by kernel_rfl) rfl
set_option maxRecDepth 100000 in
theorem cal_259 : Cal 259 := cal_of Hvaa.func259 (by kernel_rfl) rfl
set_option maxRecDepth 100000 in
theorem cal_260 : Cal 260 := cal_of Hvaa.func260 (by kernel_rfl) rfl
set_option maxRecDepth 100000 in
theorem cal_261 : Cal 261 := cal_of Hvaa.func261 (by kernel_rfl) rfl
set_option maxRecDepth 100000 in
theorem cal_262 : Cal 262 := cal_of Hvaa.func262 (by kernel_rfl) rfl
set_option maxRecDepth 100000 in
theorem cal_263 : Cal 263 := cal_of Hvaa.func263 (by kernel_rfl) rfl
set_option maxRecDepth 100000 in
theorem cal_264 : Cal 264 := cal_of Hvaa.func264 (by kernel_rfl) rfl
set_option maxRecDepth 100000 in
theorem cal_265 : Cal 265 := cal_of Hvaa.func265 (by kernel_rfl) rfl
set_option maxRecDepth 100000 in
theorem cal_266 : Cal 266 := cal_of Hvaa.func266 (by kernel_rfl) rfl
set_option maxRecDepth 100000 in
theorem cal_267 : Cal 267 := cal_of Hvaa.func267 (by kernel_rfl) rfl
set_option maxRecDepth 100000 in
theorem cal_268 : Cal 268 := cal_of Hvaa.func268 (by kernel_rfl) rfl
set_option maxRecDepth 100000 in
theorem cal_269 : Cal 269 := cal_of Hvaa.func269 (by kernel_rfl) rfl
set_option maxRecDepth 100000 in
theorem cal_270 : Cal 270 := cal_of Hvaa.func270 (by kernel_rfl) rfl
set_option maxRecDepth 100000 in
theorem cal_271 : Cal 271 := cal_of Hvaa.func271 (by kernel_rfl) rfl
set_option maxRecDepth 100000 in
theorem cal_272 : Cal 272 := cal_of Hvaa.func272 (by kernel_rfl) rfl
set_option maxRecDepth 100000 in
theorem cal_273 : Cal 273 := cal_of Hvaa.func273 (by kernel_rfl) rfl
set_option maxRecDepth 100000 in
theorem cal_274 : Cal 274 := cal_of Hvaa.func274 (by kernel_rfl) rfl
set_option maxRecDepth 100000 in
theorem cal_275 : Cal 275 := cal_of Hvaa.func275 (by kernel_rfl) rfl
set_option maxRecDepth 100000 in
theorem cal_276 : Cal 276 := cal_of Hvaa.func276 (by kernel_rfl) rfl
set_option maxRecDepth 100000 in
theorem cal_277 : Cal 277 := cal_of Hvaa.func277 (by kernel_rfl) rfl
set_option maxRecDepth 100000 in
theorem cal_278 : Cal 278 := cal_of Hvaa.func278 (by kernel_rfl) rfl
set_option maxRecDepth 100000 in
theorem cal_279 : Cal 279 := cal_of Hvaa.func279 (by kernel_rfl) rfl
set_option maxRecDepth 100000 in
theorem cal_280 : Cal 280 := cal_of Hvaa.func280 (by kernel_rfl) rfl
set_option maxRecDepth 100000 in
theorem cal_281 : Cal 281 := cal_of Hvaa.func281 (by kernel_rfl) rfl
set_option maxRecDepth 100000 in
theorem cal_282 : Cal 282 := cal_of Hvaa.func282 (by kernel_rfl) rfl
set_option maxRecDepth 100000 in
theorem cal_283 : Cal 283 := cal_of Hvaa.func283 (by kernel_rfl) rfl
set_option maxRecDepth 100000 in
theorem cal_284 : Cal 284 := cal_of Hvaa.func284 (by kernel_rfl) rfl
set_option maxRecDepth 100000 in
theorem cal_285 : Cal 285 := cal_of Hvaa.func285 (by kernel_rfl) rfl
set_option maxRecDepth 100000 in
theorem cal_286 : Cal 286 := cal_of Hvaa.func286 (by kernel_rfl) rfl
set_option maxRecDepth 100000 in
theorem cal_287 : Cal 287 := cal_of Hvaa.func287 (by kernel_rfl) rfl
set_option maxRecDepth 100000 in
theorem cal_288 : Cal 288 := cal_of Hvaa.func288 (by kernel_rfl) rfl
set_option maxRecDepth 100000 in
theorem cal_289 : Cal 289 := cal_of Hvaa.func289 (by kernel_rfl) rfl
set_option maxRecDepth 100000 in
theorem cal_290 : Cal 290 := cal_of Hvaa.func290 (by kernel_rfl) rfl
set_option maxRecDepth 100000 in
theorem cal_291 : Cal 291 := cal_of Hvaa.func291 (by kernel_rfl) rfl
set_option maxRecDepth 100000 in
theorem cal_292 : Cal 292 := cal_of Hvaa.func292 (by kernel_rfl) rfl
set_option maxRecDepth 100000 in
theorem cal_293 : Cal 293 := cal_of Hvaa.func293 (by kernel_rfl) rfl
set_option maxRecDepth 100000 in
theorem cal_294 : Cal 294 := cal_of Hvaa.func294 (by kernel_rfl) rfl
set_option maxRecDepth 100000 in
theorem cal_295 : Cal 295 := cal_of Hvaa.func295 (by kernel_rfl) rfl
set_option maxRecDepth 100000 in
theorem cal_296 : Cal 296 := cal_of Hvaa.func296 (by kernel_rfl) rfl
set_option maxRecDepth 100000 in
theorem cal_297 : Cal 297 := cal_of Hvaa.func297 (by kernel_rfl) rfl
set_option maxRecDepth 100000 in
theorem cal_298 : Cal 298 := cal_of Hvaa.func298 (by kernel_rfl) rfl
set_option maxRecDepth 100000 in
theorem cal_299 : Cal 299 := cal_of Hvaa.func299 (by kernel_rfl) rfl
set_option maxRecDepth 100000 in
theorem cal_300 : Cal 300 := cal_of Hvaa.func300 (by kernel_rfl) rfl
set_option maxRecDepth 100000 in
theorem cal_301 : Cal 301 := cal_of Hvaa.func301 (by kernel_rfl) rfl
set_option maxRecDepth 100000 in
theorem cal_302 : Cal 302 := cal_of Hvaa.func302 (by kernel_rfl) rfl
set_option maxRecDepth 100000 in
theorem cal_303 : Cal 303 := cal_of Hvaa.func303 (by kernel_rfl) rfl
set_option maxRecDepth 100000 in
theorem cal_304 : Cal 304 := cal_of Hvaa.func304 (by kernel_rfl) rfl
set_option maxRecDepth 100000 in
theorem cal_305 : Cal 305 := cal_of Hvaa.func305 (by kernel_rfl) rfl
set_option maxRecDepth 100000 in
theorem cal_306 : Cal 306 := cal_of Hvaa.func306 (by kernel_rfl) rfl
set_option maxRecDepth 100000 in
theorem cal_307 : Cal 307 := cal_of Hvaa.func307 (by kernel_rfl) rfl
set_option maxRecDepth 100000 in
theorem cal_308 : Cal 308 := cal_of Hvaa.func308 (by kernel_rfl) rfl
set_option maxRecDepth 100000 in
theorem cal_309 : Cal 309 := cal_of Hvaa.func309 (by kernel_rfl) rfl
set_option maxRecDepth 100000 in
theorem cal_310 : Cal 310 := cal_of Hvaa.func310 (by kernel_rfl) rfl
set_option maxRecDepth 100000 in
theorem cal_311 : Cal 311 := cal_of Hvaa.func311 (by kernel_rfl) rfl
set_option maxRecDepth 100000 in
theorem cal_312 : Cal 312 := cal_of Hvaa.func312 (by kernel_rfl) rfl
set_option maxRecDepth 100000 in
theorem cal_313 : Cal 313 := cal_of Hvaa.func313 (by kernel_rfl) rfl
set_option maxRecDepth 100000 in
theorem cal_314 : Cal 314 := cal_of Hvaa.func314 (by kernel_rfl) rfl
set_option maxRecDepth 100000 in
theorem cal_315 : Cal 315 := cal_of Hvaa.func315 (by kernel_rfl) rfl
set_option maxRecDepth 100000 in
theorem cal_316 : Cal 316 := cal_of Hvaa.func316 (by kernel_rfl) rfl
set_option maxRecDepth 100000 in
theorem cal_317 : Cal 317 := cal_of Hvaa.func317 (by kernel_rfl) rfl
set_option maxRecDepth 100000 in
theorem cal_318 : Cal 318 := cal_of Hvaa.func318 (by kernel_rfl) rfl
set_option maxRecDepth 100000 in
theorem cal_319 : Cal 319 := cal_of Hvaa.func319 (by kernel_rfl) rfl
set_option maxRecDepth 100000 in
theorem cal_329 : Cal 329 := cal_of Hvaa.func329 (by kernel_rfl) rfl
set_option maxRecDepth 100000 in
theorem cal_330 : Cal 330 := cal_of Hvaa.func330 (by kernel_rfl) rfl
set_option maxRecDepth 100000 in
theorem cal_331 : Cal 331 := cal_of Hvaa.func331 (by kernel_rfl) rfl
set_option maxRecDepth 100000 in
theorem cal_332 : Cal 332 := cal_of Hvaa.func332 (by kernel_rfl) rfl
set_option maxRecDepth 100000 in
theorem cal_333 : Cal 333 := cal_of Hvaa.func333 (by kernel_rfl) rfl
set_option maxRecDepth 100000 in
theorem cal_334 : Cal 334 := cal_of Hvaa.func334 (by kernel_rfl) rfl
set_option maxRecDepth 100000 in
theorem cal_335 : Cal 335 := cal_of Hvaa.func335 (by kernel_rfl) rfl
set_option maxRecDepth 100000 in
theorem cal_336 : Cal 336 := cal_of Hvaa.func336 (by kernel_rfl) rfl
set_option maxRecDepth 100000 in
theorem cal_337 : Cal 337 := cal_of Hvaa.func337 (by kernel_rfl) rfl
set_option maxRecDepth 100000 in
theorem cal_338 : Cal 338 := cal_of Hvaa.func338 (by kernel_rfl) rfl
set_option maxRecDepth 100000 in
theorem cal_339 : Cal 339 := cal_of Hvaa.func339 (by kernel_rfl) rfl
set_option maxRecDepth 100000 in
theorem cal_340 : Cal 340 := cal_of Hvaa.func340 (by kernel_rfl) rfl
set_option maxRecDepth 100000 in
theorem cal_341 : Cal 341 := cal_of Hvaa.func341 (by kernel_rfl) rfl
set_option maxRecDepth 100000 in
theorem cal_342 : Cal 342 := cal_of Hvaa.func342 (by kernel_rfl) rfl
set_option maxRecDepth 100000 in
theorem cal_343 : Cal 343 := cal_of Hvaa.func343 (by kernel_rfl) rfl
set_option maxRecDepth 100000 in
theorem cal_344 : Cal 344 := cal_of Hvaa.func344 (by kernel_rfl) rfl
set_option maxRecDepth 100000 in
theorem cal_345 : Cal 345 := cal_of Hvaa.func345 (by kernel_rfl) rfl
set_option maxRecDepth 100000 in
theorem cal_346 : Cal 346 := cal_of Hvaa.func346 (by kernel_rfl) rfl
set_option maxRecDepth 100000 in
theorem cal_347 : Cal 347 := cal_of Hvaa.func347 (by kernel_rfl) rfl
set_option maxRecDepth 100000 in
theorem cal_348 : Cal 348 := cal_of Hvaa.func348 (by kernel_rfl) rfl
set_option maxRecDepth 100000 in
theorem cal_349 : Cal 349 := cal_of Hvaa.func349 (by kernel_rfl) rfl
set_option maxRecDepth 100000 in
theorem cal_350 : Cal 350 := cal_of Hvaa.func350 (by kernel_rfl) rfl
set_option maxRecDepth 100000 in
theorem cal_351 : Cal 351 := cal_of Hvaa.func351 (by kernel_rfl) rfl
set_option maxRecDepth 100000 in
theorem cal_352 : Cal 352 := cal_of Hvaa.func352 (by kernel_rfl) rfl
set_option maxRecDepth 100000 in
theorem cal_353 : Cal 353 := cal_of Hvaa.func353 (by kernel_rfl) rfl
set_option maxRecDepth 100000 in
theorem cal_355 : Cal 355 := cal_of Hvaa.func355 (by kernel_rfl) rfl
set_option maxRecDepth 100000 in
theorem cal_356 : Cal 356 := cal_of Hvaa.func356 (by kernel_rfl) rfl
set_option maxRecDepth 100000 in
theorem cal_357 : Cal 357 := cal_of Hvaa.func357 (by kernel_rfl) rfl
set_option maxRecDepth 100000 in
theorem cal_358 : Cal 358 := cal_of Hvaa.func358 (by kernel_rfl) rfl
set_option maxRecDepth 100000 in
theorem cal_359 : Cal 359 := cal_of Hvaa.func359 (by kernel_rfl) rfl
set_option maxRecDepth 100000 in
theorem cal_360 : Cal 360 := cal_of Hvaa.func360 (by kernel_rfl) rfl
set_option maxRecDepth 100000 in
theorem cal_361 : Cal 361 := cal_of Hvaa.func361 (by kernel_rfl) rfl
set_option maxRecDepth 100000 in
theorem cal_362 : Cal 362 := cal_of Hvaa.func362 (by kernel_rfl) rfl
set_option maxRecDepth 100000 in
theorem cal_363 : Cal 363 := cal_of Hvaa.func363 (by kernel_rfl) rfl
set_option maxRecDepth 100000 in
theorem cal_364 : Cal 364 := cal_of Hvaa.func364 (by kernel_rfl) rfl
set_option maxRecDepth 100000 in
theorem cal_365 : Cal 365 := cal_of Hvaa.func365 (by kernel_rfl) rfl
set_option maxRecDepth 100000 in
theorem cal_366 : Cal 366 := cal_of Hvaa.func366 (by kernel_rfl) rfl
set_option maxRecDepth 100000 in
theorem cal_367 : Cal 367 := cal_of Hvaa.func367 (by kernel_rfl) rfl
set_option maxRecDepth 100000 in
theorem cal_368 : Cal 368 := cal_of Hvaa.func368 (by kernel_rfl) rfl
set_option maxRecDepth 100000 in
theorem cal_369 : Cal 369 := cal_of Hvaa.func369 (by kernel_rfl) rfl
set_option maxRecDepth 100000 in
theorem cal_370 : Cal 370 := cal_of Hvaa.func370 (by kernel_rfl) rfl
set_option maxRecDepth 100000 in
theorem cal_371 : Cal 371 := cal_of Hvaa.func371 (by kernel_rfl) rfl
set_option maxRecDepth 100000 in
theorem cal_372 : Cal 372 := cal_of Hvaa.func372 (by kernel_rfl) rfl
set_option maxRecDepth 100000 in
theorem cal_373 : Cal 373 := cal_of Hvaa.func373 (by kernel_rfl) rfl
set_option maxRecDepth 100000 in
theorem cal_374 : Cal 374 := cal_of Hvaa.func374 (by kernel_rfl) rfl
set_option maxRecDepth 100000 in
theorem cal_375 : Cal 375 := cal_of Hvaa.func375 (by kernel_rfl) rfl
set_option maxRecDepth 100000 in
theorem cal_376 : Cal 376 := cal_of Hvaa.func376 (by kernel_rfl) rfl
set_option maxRecDepth 100000 in
theorem cal_377 : Cal 377 := cal_of Hvaa.func377 (by kernel_rfl) rfl
set_option maxRecDepth 100000 in
theorem cal_378 : Cal 378 := cal_of Hvaa.func378 (by kernel_rfl) rfl
set_option maxRecDepth 100000 in
theorem cal_379 : Cal 379 := cal_of Hvaa.func379 (by kernel_rfl) rfl
set_option maxRecDepth 100000 in
theorem cal_380 : Cal 380 := cal_of Hvaa.func380 (by kernel_rfl) rfl
set_option maxRecDepth 100000 in
theorem cal_381 : Cal 381 := cal_of Hvaa.func381 (by kernel_rfl) rfl
set_option maxRecDepth 100000 in
theorem cal_382 : Cal 382 := cal_of Hvaa.func382 (by kernel_rfl) rfl
set_option maxRecDepth 100000 in
theorem cal_383 : Cal 383 := cal_of Hvaa.func383 (by kernel_rfl) rfl
set_option maxRecDepth 100000 in
theorem cal_384 : Cal 384 := cal_of Hvaa.func384 (by kernel_rfl) rfl
set_option maxRecDepth 100000 in
theorem cal_388 : Cal 388 := cal_of Hvaa.func388 (by kernel_rfl) rfl
set_option maxRecDepth 100000 in
theorem cal_389 : Cal 389 := cal_of Hvaa.func389 (by kernel_rfl) rfl
set_option maxRecDepth 100000 in
theorem cal_390 : Cal 390 := cal_of Hvaa.func390 (by kernel_rfl) rfl
set_option maxRecDepth 100000 in
theorem cal_391 : Cal 391 := cal_of Hvaa.func391 (by kernel_rfl) rfl
set_option maxRecDepth 100000 in
theorem cal_392 : Cal 392 := cal_of Hvaa.func392 (by kernel_rfl) rfl
set_option maxRecDepth 100000 in
theorem cal_393 : Cal 393 := cal_of Hvaa.func393 (by kernel_rfl) rfl
set_option maxRecDepth 100000 in
theorem cal_394 : Cal 394 := cal_of Hvaa.func394 (by kernel_rfl) rfl
set_option maxRecDepth 100000 in
theorem cal_395 : Cal 395 := cal_of Hvaa.func395 (by kernel_rfl) rfl
set_option maxRecDepth 100000 in
theorem cal_396 : Cal 396 := cal_of Hvaa.func396 (by kernel_rfl) rfl
set_option maxRecDepth 100000 in
theorem cal_397 : Cal 397 := cal_of Hvaa.func397 (by kernel_rfl) rfl
set_option maxRecDepth 100000 in
theorem cal_398 : Cal 398 := cal_of Hvaa.func398 (by kernel_rfl) rfl
set_option maxRecDepth 100000 in
theorem cal_399 : Cal 399 := cal_of Hvaa.func399 (by kernel_rfl) rfl
set_option maxRecDepth 100000 in
theorem cal_400 : Cal 400 := cal_of Hvaa.func400 (by kernel_rfl) rfl
set_option maxRecDepth 100000 in
theorem cal_401 : Cal 401 := cal_of Hvaa.func401 (by kernel_rfl) rfl
set_option maxRecDepth 100000 in
theorem cal_402 : Cal 402 := cal_of Hvaa.func402 (by kernel_rfl) rfl
set_option maxRecDepth 100000 in
theorem cal_403 : Cal 403 := cal_of Hvaa.func403 (by kernel_rfl) rfl
set_option maxRecDepth 100000 in
theorem cal_404 : Cal 404 := cal_of Hvaa.func404 (by kernel_rfl) rfl
set_option maxRecDepth 100000 in
theorem cal_405 : Cal 405 := cal_of Hvaa.func405 (by kernel_rfl) rfl
set_option maxRecDepth 100000 in
theorem cal_406 : Cal 406 := cal_of Hvaa.func406 (by kernel_rfl) rfl
set_option maxRecDepth 100000 in
theorem cal_407 : Cal 407 := cal_of Hvaa.func407 (by kernel_rfl) rfl
set_option maxRecDepth 100000 in
theorem cal_408 : Cal 408 := cal_of Hvaa.func408 (by kernel_rfl) rfl
set_option maxRecDepth 100000 in
theorem cal_413 : Cal 413 := cal_of Hvaa.func413 (by kernel_rfl) rfl
set_option maxRecDepth 100000 in
theorem cal_414 : Cal 414 := cal_of Hvaa.func414 (by kernel_rfl) rfl
set_option maxRecDepth 100000 in
theorem cal_415 : Cal 415 := cal_of Hvaa.func415 (by kernel_rfl) rfl
set_option maxRecDepth 100000 in
theorem cal_416 : Cal 416 := cal_of Hvaa.func416 (by kernel_rfl) rfl
set_option maxRecDepth 100000 in
theorem cal_417 : Cal 417 := cal_of Hvaa.func417 (by kernel_rfl) rfl
set_option maxRecDepth 100000 in
theorem cal_418 : Cal 418 := cal_of Hvaa.func418 (by kernel_rfl) rfl
set_option maxRecDepth 100000 in
theorem cal_419 : Cal 419 := cal_of Hvaa.func419 (by kernel_rfl) rfl
set_option maxRecDepth 100000 in
theorem cal_420 : Cal 420 := cal_of Hvaa.func420 (by kernel_rfl) rfl
set_option maxRecDepth 100000 in
theorem cal_421 : Cal 421 := cal_of Hvaa.func421 (by kernel_rfl) rfl
set_option maxRecDepth 100000 in
theorem cal_422 : Cal 422 := cal_of Hvaa.func422 (by kernel_rfl) rfl
set_option maxRecDepth 100000 in
theorem cal_423 : Cal 423 := cal_of Hvaa.func423 (by kernel_rfl) rfl
set_option maxRecDepth 100000 in
theorem cal_424 : Cal 424 := cal_of Hvaa.func424 (by kernel_rfl) rfl
set_option maxRecDepth 100000 in
theorem cal_425 : Cal 425 := cal_of Hvaa.func425 (by kernel_rfl) rfl
set_option maxRecDepth 100000 in
theorem cal_426 : Cal 426 := cal_of Hvaa.func426 (by kernel_rfl) rfl
set_option maxRecDepth 100000 in
theorem cal_427 : Cal 427 := cal_of Hvaa.func427 (by kernel_rfl) rfl
set_option maxRecDepth 100000 in
theorem cal_428 : Cal 428 := cal_of Hvaa.func428 (by kernel_rfl) rfl
end Go.Proofs.YgvaawGreat
