import Derived.Test.YgvaawGreatFrz
namespace Go.Proofs.YgvaawGreat
open Go
theorem by_4 : By 4 1 := by
  show (Hvaa.prog.info? 4).map (·.bytes) = some 1
  kernel_rfl
theorem zr_4 : Zr 4 (.bool false) := by
  show (Hvaa.prog.info? 4).bind (·.zero) = _
  kernel_rfl
theorem by_5 : By 5 1 := by
  show (Hvaa.prog.info? 5).map (·.bytes) = some 1
  kernel_rfl
theorem zr_5 : Zr 5 (.int .u8 0) := by
  show (Hvaa.prog.info? 5).bind (·.zero) = _
  kernel_rfl
theorem by_21 : By 21 4 := by
  show (Hvaa.prog.info? 21).map (·.bytes) = some 4
  kernel_rfl
theorem zr_21 : Zr 21 (.int .i32 0) := by
  show (Hvaa.prog.info? 21).bind (·.zero) = _
  kernel_rfl
theorem by_25 : By 25 20 := by
  show (Hvaa.prog.info? 25).map (·.bytes) = some 20
  kernel_rfl
theorem by_26 : By 26 8 := by
  show (Hvaa.prog.info? 26).map (·.bytes) = some 8
  kernel_rfl
theorem by_28 : By 28 32 := by
  show (Hvaa.prog.info? 28).map (·.bytes) = some 32
  kernel_rfl
theorem by_95 : By 95 24 := by
  show (Hvaa.prog.info? 95).map (·.bytes) = some 24
  kernel_rfl
theorem zr_95 : Zr 95 (.slice none 0 0) := by
  show (Hvaa.prog.info? 95).bind (·.zero) = _
  kernel_rfl
theorem by_107 : By 107 120 := by
  show (Hvaa.prog.info? 107).map (·.bytes) = some 120
  kernel_rfl
theorem by_113 : By 113 112 := by
  show (Hvaa.prog.info? 113).map (·.bytes) = some 112
  kernel_rfl
theorem by_115 : By 115 48 := by
  show (Hvaa.prog.info? 115).map (·.bytes) = some 48
  kernel_rfl
theorem by_117 : By 117 64 := by
  show (Hvaa.prog.info? 117).map (·.bytes) = some 64
  kernel_rfl
theorem by_131 : By 131 72 := by
  show (Hvaa.prog.info? 131).map (·.bytes) = some 72
  kernel_rfl
theorem by_139 : By 139 72 := by
  show (Hvaa.prog.info? 139).map (·.bytes) = some 72
  kernel_rfl
theorem by_146 : By 146 456 := by
  show (Hvaa.prog.info? 146).map (·.bytes) = some 456
  kernel_rfl
theorem by_167 : By 167 96 := by
  show (Hvaa.prog.info? 167).map (·.bytes) = some 96
  kernel_rfl
theorem zr_167 : Zr 167 (.agg (([(List.replicate 20 (.int .u8 0)), [.int .u64 0], (List.replicate 4 (.int .u64 0)), [.slice none 0 0], [.bool false], [.bool false], [.bool false]] : List (List Value)).flatten : List Value).toArray) := by
  show (Hvaa.prog.info? 167).bind (·.zero) = _
  kernel_rfl
theorem by_170 : By 170 48 := by
  show (Hvaa.prog.info? 170).map (·.bytes) = some 48
  kernel_rfl
theorem by_176 : By 176 112 := by
  show (Hvaa.prog.info? 176).map (·.bytes) = some 112
  kernel_rfl
theorem zr_176 : Zr 176 (.agg (([[.int .i32 0], (List.replicate 4 (.int .u64 0)), (List.replicate 4 (.int .u64 0)), (List.replicate 4 (.int .u64 0)), [.bool false]] : List (List Value)).flatten : List Value).toArray) := by
  show (Hvaa.prog.info? 176).bind (·.zero) = _
  kernel_rfl
theorem by_218 : By 218 80 := by
  show (Hvaa.prog.info? 218).map (·.bytes) = some 80
  kernel_rfl
theorem zr_218 : Zr 218 (.agg (([[.int .u8 0], [.int .i32 0], [.int .u64 0], (List.replicate 4 (.int .u64 0)), [.slice none 0 0], [.bool false]] : List (List Value)).flatten : List Value).toArray) := by
  show (Hvaa.prog.info? 218).bind (·.zero) = _
  kernel_rfl
theorem by_232 : By 232 48 := by
  show (Hvaa.prog.info? 232).map (·.bytes) = some 48
  kernel_rfl
theorem by_295 : By 295 72 := by
  show (Hvaa.prog.info? 295).map (·.bytes) = some 72
  kernel_rfl
theorem by_430 : By 430 72 := by
  show (Hvaa.prog.info? 430).map (·.bytes) = some 72
  kernel_rfl
theorem zr_430 : Zr 430 (.agg (([[.int .i32 0], (List.replicate 4 (.int .u64 0)), (List.replicate 4 (.int .u64 0))] : List (List Value)).flatten : List Value).toArray) := by
  show (Hvaa.prog.info? 430).bind (·.zero) = _
  kernel_rfl
end Go.Proofs.YgvaawGreat
