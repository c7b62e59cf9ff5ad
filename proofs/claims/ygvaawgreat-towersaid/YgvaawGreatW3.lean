import Derived.Test.YgvaawGreatW2
set_option maxRecDepth 100000
set_option linter.unusedSimpArgs false
set_option linter.unusedVariables false
namespace Go.Proofs.YgvaawGreat
open Go
/-! The paper's plain instructions, one by one. -/
theorem plf_1 (s : YSt) (f : YF) : plF s f 1 = ansN f 2 (aluN 1 (argN f.stack 0) (argN f.stack 1) (argN f.stack 2)) := by
  unfold plF plStk plPC plM
  rfl
theorem pls_1 (s : YSt) (f : YF) : plS s f 1 = s := by
  unfold plS
  rfl
theorem plf_2 (s : YSt) (f : YF) : plF s f 2 = ansN f 2 (aluN 2 (argN f.stack 0) (argN f.stack 1) (argN f.stack 2)) := by
  unfold plF plStk plPC plM
  rfl
theorem pls_2 (s : YSt) (f : YF) : plS s f 2 = s := by
  unfold plS
  rfl
theorem plf_3 (s : YSt) (f : YF) : plF s f 3 = ansN f 2 (aluN 3 (argN f.stack 0) (argN f.stack 1) (argN f.stack 2)) := by
  unfold plF plStk plPC plM
  rfl
theorem pls_3 (s : YSt) (f : YF) : plS s f 3 = s := by
  unfold plS
  rfl
theorem plf_4 (s : YSt) (f : YF) : plF s f 4 = ansN f 2 (aluN 4 (argN f.stack 0) (argN f.stack 1) (argN f.stack 2)) := by
  unfold plF plStk plPC plM
  rfl
theorem pls_4 (s : YSt) (f : YF) : plS s f 4 = s := by
  unfold plS
  rfl
theorem plf_5 (s : YSt) (f : YF) : plF s f 5 = ansN f 2 (aluN 5 (argN f.stack 0) (argN f.stack 1) (argN f.stack 2)) := by
  unfold plF plStk plPC plM
  rfl
theorem pls_5 (s : YSt) (f : YF) : plS s f 5 = s := by
  unfold plS
  rfl
theorem plf_6 (s : YSt) (f : YF) : plF s f 6 = ansN f 2 (aluN 6 (argN f.stack 0) (argN f.stack 1) (argN f.stack 2)) := by
  unfold plF plStk plPC plM
  rfl
theorem pls_6 (s : YSt) (f : YF) : plS s f 6 = s := by
  unfold plS
  rfl
theorem plf_7 (s : YSt) (f : YF) : plF s f 7 = ansN f 2 (aluN 7 (argN f.stack 0) (argN f.stack 1) (argN f.stack 2)) := by
  unfold plF plStk plPC plM
  rfl
theorem pls_7 (s : YSt) (f : YF) : plS s f 7 = s := by
  unfold plS
  rfl
theorem plf_8 (s : YSt) (f : YF) : plF s f 8 = ansN f 3 (aluN 8 (argN f.stack 0) (argN f.stack 1) (argN f.stack 2)) := by
  unfold plF plStk plPC plM
  rfl
theorem pls_8 (s : YSt) (f : YF) : plS s f 8 = s := by
  unfold plS
  rfl
theorem plf_9 (s : YSt) (f : YF) : plF s f 9 = ansN f 3 (aluN 9 (argN f.stack 0) (argN f.stack 1) (argN f.stack 2)) := by
  unfold plF plStk plPC plM
  rfl
theorem pls_9 (s : YSt) (f : YF) : plS s f 9 = s := by
  unfold plS
  rfl
theorem plf_10 (s : YSt) (f : YF) : plF s f 10 = ansN f 2 (aluN 10 (argN f.stack 0) (argN f.stack 1) (argN f.stack 2)) := by
  unfold plF plStk plPC plM
  rfl
theorem pls_10 (s : YSt) (f : YF) : plS s f 10 = s := by
  unfold plS
  rfl
theorem plf_11 (s : YSt) (f : YF) : plF s f 11 = ansN f 2 (aluN 11 (argN f.stack 0) (argN f.stack 1) (argN f.stack 2)) := by
  unfold plF plStk plPC plM
  rfl
theorem pls_11 (s : YSt) (f : YF) : plS s f 11 = s := by
  unfold plS
  rfl
theorem plf_16 (s : YSt) (f : YF) : plF s f 16 = ansN f 2 (aluN 16 (argN f.stack 0) (argN f.stack 1) (argN f.stack 2)) := by
  unfold plF plStk plPC plM
  rfl
theorem pls_16 (s : YSt) (f : YF) : plS s f 16 = s := by
  unfold plS
  rfl
theorem plf_17 (s : YSt) (f : YF) : plF s f 17 = ansN f 2 (aluN 17 (argN f.stack 0) (argN f.stack 1) (argN f.stack 2)) := by
  unfold plF plStk plPC plM
  rfl
theorem pls_17 (s : YSt) (f : YF) : plS s f 17 = s := by
  unfold plS
  rfl
theorem plf_18 (s : YSt) (f : YF) : plF s f 18 = ansN f 2 (aluN 18 (argN f.stack 0) (argN f.stack 1) (argN f.stack 2)) := by
  unfold plF plStk plPC plM
  rfl
theorem pls_18 (s : YSt) (f : YF) : plS s f 18 = s := by
  unfold plS
  rfl
theorem plf_19 (s : YSt) (f : YF) : plF s f 19 = ansN f 2 (aluN 19 (argN f.stack 0) (argN f.stack 1) (argN f.stack 2)) := by
  unfold plF plStk plPC plM
  rfl
theorem pls_19 (s : YSt) (f : YF) : plS s f 19 = s := by
  unfold plS
  rfl
theorem plf_20 (s : YSt) (f : YF) : plF s f 20 = ansN f 2 (aluN 20 (argN f.stack 0) (argN f.stack 1) (argN f.stack 2)) := by
  unfold plF plStk plPC plM
  rfl
theorem pls_20 (s : YSt) (f : YF) : plS s f 20 = s := by
  unfold plS
  rfl
theorem pls_21 (s : YSt) (f : YF) : plS s f 21 = s := by
  unfold plS
  rfl
theorem plf_22 (s : YSt) (f : YF) : plF s f 22 = ansN f 2 (aluN 22 (argN f.stack 0) (argN f.stack 1) (argN f.stack 2)) := by
  unfold plF plStk plPC plM
  rfl
theorem pls_22 (s : YSt) (f : YF) : plS s f 22 = s := by
  unfold plS
  rfl
theorem plf_23 (s : YSt) (f : YF) : plF s f 23 = ansN f 2 (aluN 23 (argN f.stack 0) (argN f.stack 1) (argN f.stack 2)) := by
  unfold plF plStk plPC plM
  rfl
theorem pls_23 (s : YSt) (f : YF) : plS s f 23 = s := by
  unfold plS
  rfl
theorem plf_24 (s : YSt) (f : YF) : plF s f 24 = ansN f 2 (aluN 24 (argN f.stack 0) (argN f.stack 1) (argN f.stack 2)) := by
  unfold plF plStk plPC plM
  rfl
theorem pls_24 (s : YSt) (f : YF) : plS s f 24 = s := by
  unfold plS
  rfl
theorem pls_25 (s : YSt) (f : YF) : plS s f 25 = s := by
  unfold plS
  rfl
theorem plf_26 (s : YSt) (f : YF) : plF s f 26 = ansN f 2 (aluN 26 (argN f.stack 0) (argN f.stack 1) (argN f.stack 2)) := by
  unfold plF plStk plPC plM
  rfl
theorem pls_26 (s : YSt) (f : YF) : plS s f 26 = s := by
  unfold plS
  rfl
theorem plf_27 (s : YSt) (f : YF) : plF s f 27 = ansN f 2 (aluN 27 (argN f.stack 0) (argN f.stack 1) (argN f.stack 2)) := by
  unfold plF plStk plPC plM
  rfl
theorem pls_27 (s : YSt) (f : YF) : plS s f 27 = s := by
  unfold plS
  rfl
theorem plf_28 (s : YSt) (f : YF) : plF s f 28 = ansN f 2 (aluN 28 (argN f.stack 0) (argN f.stack 1) (argN f.stack 2)) := by
  unfold plF plStk plPC plM
  rfl
theorem pls_28 (s : YSt) (f : YF) : plS s f 28 = s := by
  unfold plS
  rfl
theorem plf_29 (s : YSt) (f : YF) : plF s f 29 = ansN f 2 (aluN 29 (argN f.stack 0) (argN f.stack 1) (argN f.stack 2)) := by
  unfold plF plStk plPC plM
  rfl
theorem pls_29 (s : YSt) (f : YF) : plS s f 29 = s := by
  unfold plS
  rfl
theorem plf_48 (s : YSt) (f : YF) : plF s f 48 = ansN f 0 (f.self) := by
  unfold plF plStk plPC plM
  rfl
theorem pls_48 (s : YSt) (f : YF) : plS s f 48 = s := by
  unfold plS
  rfl
theorem plf_50 (s : YSt) (f : YF) : plF s f 50 = ansN f 0 (s.origin) := by
  unfold plF plStk plPC plM
  rfl
theorem pls_50 (s : YSt) (f : YF) : plS s f 50 = s := by
  unfold plS
  rfl
theorem plf_51 (s : YSt) (f : YF) : plF s f 51 = ansN f 0 (f.caller) := by
  unfold plF plStk plPC plM
  rfl
theorem pls_51 (s : YSt) (f : YF) : plS s f 51 = s := by
  unfold plS
  rfl
theorem plf_52 (s : YSt) (f : YF) : plF s f 52 = ansN f 0 (f.value) := by
  unfold plF plStk plPC plM
  rfl
theorem pls_52 (s : YSt) (f : YF) : plS s f 52 = s := by
  unfold plS
  rfl
theorem plf_54 (s : YSt) (f : YF) : plF s f 54 = ansN f 0 (f.input.length) := by
  unfold plF plStk plPC plM
  rfl
theorem pls_54 (s : YSt) (f : YF) : plS s f 54 = s := by
  unfold plS
  rfl
theorem plf_56 (s : YSt) (f : YF) : plF s f 56 = ansN f 0 (f.code.length) := by
  unfold plF plStk plPC plM
  rfl
theorem pls_56 (s : YSt) (f : YF) : plS s f 56 = s := by
  unfold plS
  rfl
theorem plf_58 (s : YSt) (f : YF) : plF s f 58 = ansN f 0 (s.price) := by
  unfold plF plStk plPC plM
  rfl
theorem pls_58 (s : YSt) (f : YF) : plS s f 58 = s := by
  unfold plS
  rfl
theorem plf_61 (s : YSt) (f : YF) : plF s f 61 = ansN f 0 (s.ret.length) := by
  unfold plF plStk plPC plM
  rfl
theorem pls_61 (s : YSt) (f : YF) : plS s f 61 = s := by
  unfold plS
  rfl
theorem plf_71 (s : YSt) (f : YF) : plF s f 71 = ansN f 0 ((acctAt s.now.accts f.self).bal) := by
  unfold plF plStk plPC plM
  rfl
theorem pls_71 (s : YSt) (f : YF) : plS s f 71 = s := by
  unfold plS
  rfl
theorem plf_88 (s : YSt) (f : YF) : plF s f 88 = ansN f 0 (f.pc) := by
  unfold plF plStk plPC plM
  rfl
theorem pls_88 (s : YSt) (f : YF) : plS s f 88 = s := by
  unfold plS
  rfl
theorem plf_89 (s : YSt) (f : YF) : plF s f 89 = ansN f 0 (f.mem.length) := by
  unfold plF plStk plPC plM
  rfl
theorem pls_89 (s : YSt) (f : YF) : plS s f 89 = s := by
  unfold plS
  rfl
theorem plf_90 (s : YSt) (f : YF) : plF s f 90 = ansN f 0 (f.gas) := by
  unfold plF plStk plPC plM
  rfl
theorem pls_90 (s : YSt) (f : YF) : plS s f 90 = s := by
  unfold plS
  rfl
theorem plf_65 (s : YSt) (f : YF) : plF s f 65 = ansN f 0 (s.env.coinbase) := by
  unfold plF plStk plPC plM
  rfl
theorem pls_65 (s : YSt) (f : YF) : plS s f 65 = s := by
  unfold plS
  rfl
theorem plf_66 (s : YSt) (f : YF) : plF s f 66 = ansN f 0 (s.env.time) := by
  unfold plF plStk plPC plM
  rfl
theorem pls_66 (s : YSt) (f : YF) : plS s f 66 = s := by
  unfold plS
  rfl
theorem plf_67 (s : YSt) (f : YF) : plF s f 67 = ansN f 0 (s.env.number) := by
  unfold plF plStk plPC plM
  rfl
theorem pls_67 (s : YSt) (f : YF) : plS s f 67 = s := by
  unfold plS
  rfl
theorem plf_68 (s : YSt) (f : YF) : plF s f 68 = ansN f 0 (s.env.randao) := by
  unfold plF plStk plPC plM
  rfl
theorem pls_68 (s : YSt) (f : YF) : plS s f 68 = s := by
  unfold plS
  rfl
theorem plf_69 (s : YSt) (f : YF) : plF s f 69 = ansN f 0 (s.env.gasLimit) := by
  unfold plF plStk plPC plM
  rfl
theorem pls_69 (s : YSt) (f : YF) : plS s f 69 = s := by
  unfold plS
  rfl
theorem plf_70 (s : YSt) (f : YF) : plF s f 70 = ansN f 0 (s.env.chainID) := by
  unfold plF plStk plPC plM
  rfl
theorem pls_70 (s : YSt) (f : YF) : plS s f 70 = s := by
  unfold plS
  rfl
theorem plf_72 (s : YSt) (f : YF) : plF s f 72 = ansN f 0 (s.env.baseFee) := by
  unfold plF plStk plPC plM
  rfl
theorem pls_72 (s : YSt) (f : YF) : plS s f 72 = s := by
  unfold plS
  rfl
theorem plf_64 (s : YSt) (f : YF) : plF s f 64 = ansN f 1 (bvN s 64 (argN f.stack 0)) := by
  unfold plF plStk plPC plM
  rfl
theorem pls_64 (s : YSt) (f : YF) : plS s f 64 = s := by
  unfold plS
  rfl
theorem plf_53 (s : YSt) (f : YF) : plF s f 53 = ansN f 1 (ofBE (cutN f.input (argN f.stack 0) 32)) := by
  unfold plF plStk plPC plM
  rfl
theorem pls_53 (s : YSt) (f : YF) : plS s f 53 = s := by
  unfold plS
  rfl
theorem plf_32 (s : YSt) (f : YF) : plF s f 32 = ansN f 2 (kecN (rdN f.mem (argN f.stack 0) (argN f.stack 1))) := by
  unfold plF plStk plPC plM
  rfl
theorem pls_32 (s : YSt) (f : YF) : plS s f 32 = s := by
  unfold plS
  rfl
theorem plf_81 (s : YSt) (f : YF) : plF s f 81 = ansN f 1 (ofBE (cutN f.mem (argN f.stack 0) 32)) := by
  unfold plF plStk plPC plM
  rfl
theorem pls_81 (s : YSt) (f : YF) : plS s f 81 = s := by
  unfold plS
  rfl
theorem plf_92 (s : YSt) (f : YF) : plF s f 92 = ansN f 1 (triAt s.now.temps f.self (argN f.stack 0)) := by
  unfold plF plStk plPC plM
  rfl
theorem pls_92 (s : YSt) (f : YF) : plS s f 92 = s := by
  unfold plS
  rfl
theorem plf_84 (s : YSt) (f : YF) : plF s f 84 = ansN f 1 (slotAt (acctAt s.now.accts f.self).slots (argN f.stack 0)) := by
  unfold plF plStk plPC plM
  rfl
theorem pls_84 (s : YSt) (f : YF) : plS s f 84 = { s with now := { s.now with warmS := withM s.now.warmS f.self (argN f.stack 0) } } := by
  unfold plS
  rfl
theorem plf_49 (s : YSt) (f : YF) : plF s f 49 = ansN f 1 (avN (acctAt s.now.accts ((argN f.stack 0) % A160)) 49) := by
  unfold plF plStk plPC plM
  rfl
theorem pls_49 (s : YSt) (f : YF) : plS s f 49 = { s with now := { s.now with warmA := withA s.now.warmA ((argN f.stack 0) % A160) } } := by
  unfold plS
  rfl
theorem pls_59 (s : YSt) (f : YF) : plS s f 59 = { s with now := { s.now with warmA := withA s.now.warmA ((argN f.stack 0) % A160) } } := by
  unfold plS
  rfl
theorem pls_63 (s : YSt) (f : YF) : plS s f 63 = { s with now := { s.now with warmA := withA s.now.warmA ((argN f.stack 0) % A160) } } := by
  unfold plS
  rfl
theorem plf_82 (s : YSt) (f : YF) : plF s f 82 = { f with stack := f.stack.take (f.stack.length - 2), pc := f.pc + 1, mem := wrN f.mem (argN f.stack 0) (be 32 (argN f.stack 1)) } := by
  unfold plF plStk plPC plM
  rfl
theorem pls_82 (s : YSt) (f : YF) : plS s f 82 = s := by
  unfold plS
  rfl
theorem plf_83 (s : YSt) (f : YF) : plF s f 83 = { f with stack := f.stack.take (f.stack.length - 2), pc := f.pc + 1, mem := wrN f.mem (argN f.stack 0) ((be 32 (argN f.stack 1)).drop 31) } := by
  unfold plF plStk plPC plM
  rfl
theorem pls_83 (s : YSt) (f : YF) : plS s f 83 = s := by
  unfold plS
  rfl
theorem plf_55 (s : YSt) (f : YF) : plF s f 55 = { f with stack := f.stack.take (f.stack.length - 3), pc := f.pc + 1, mem := cpN f.mem (argN f.stack 0) f.input (argN f.stack 1) (argN f.stack 2) } := by
  unfold plF plStk plPC plM
  rfl
theorem pls_55 (s : YSt) (f : YF) : plS s f 55 = s := by
  unfold plS
  rfl
theorem plf_57 (s : YSt) (f : YF) : plF s f 57 = { f with stack := f.stack.take (f.stack.length - 3), pc := f.pc + 1, mem := cpN f.mem (argN f.stack 0) f.code (argN f.stack 1) (argN f.stack 2) } := by
  unfold plF plStk plPC plM
  rfl
theorem pls_57 (s : YSt) (f : YF) : plS s f 57 = s := by
  unfold plS
  rfl
theorem plf_62 (s : YSt) (f : YF) : plF s f 62 = { f with stack := f.stack.take (f.stack.length - 3), pc := f.pc + 1, mem := cpN f.mem (argN f.stack 0) s.ret (argN f.stack 1) (argN f.stack 2) } := by
  unfold plF plStk plPC plM
  rfl
theorem pls_62 (s : YSt) (f : YF) : plS s f 62 = s := by
  unfold plS
  rfl
theorem plf_94 (s : YSt) (f : YF) : plF s f 94 = { f with stack := f.stack.take (f.stack.length - 3), pc := f.pc + 1, mem := cpN f.mem (argN f.stack 0) f.mem (argN f.stack 1) (argN f.stack 2) } := by
  unfold plF plStk plPC plM
  rfl
theorem pls_94 (s : YSt) (f : YF) : plS s f 94 = s := by
  unfold plS
  rfl
theorem plf_60 (s : YSt) (f : YF) : plF s f 60 = { f with stack := f.stack.take (f.stack.length - 4), pc := f.pc + 1, mem := cpN f.mem (argN f.stack 1) (acctAt s.now.accts ((argN f.stack 0) % A160)).code (argN f.stack 2) (argN f.stack 3) } := by
  unfold plF plStk plPC plM
  rfl
theorem pls_60 (s : YSt) (f : YF) : plS s f 60 = { s with now := { s.now with warmA := withA s.now.warmA ((argN f.stack 0) % A160) } } := by
  unfold plS
  rfl
theorem plf_93 (s : YSt) (f : YF) : plF s f 93 = { f with stack := f.stack.take (f.stack.length - 2), pc := f.pc + 1 } := by
  unfold plF plStk plPC plM
  rfl
theorem pls_93 (s : YSt) (f : YF) : plS s f 93 = { s with now := { s.now with temps := putT s.now.temps f.self (argN f.stack 0) (argN f.stack 1) } } := by
  unfold plS
  rfl
end Go.Proofs.YgvaawGreat
