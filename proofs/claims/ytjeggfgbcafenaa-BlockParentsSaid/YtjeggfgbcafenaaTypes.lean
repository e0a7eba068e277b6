/- Closed facts on the types and functions of the loaded program. No conditions. -/
import Derived.Test.YtjeggfgbcafenaaOps
import Derived.Test.YtjeggfgbcafenaaRows
import Derived.KernelRfl
namespace Go.Proofs.Ytjeggfgbcafenaa
open Go Hw
theorem Sz1 : Sz Try.prog 1 1 := by unfold Sz; kernel_rfl
theorem Zr1 : Zr Try.prog 1 (.nilFunc) := by unfold Zr; kernel_rfl
theorem Sz2 : Sz Try.prog 2 1 := by unfold Sz; kernel_rfl
theorem Zr2 : Zr Try.prog 2 (i64 0) := by unfold Zr; kernel_rfl
theorem Sz3 : Sz Try.prog 3 1 := by unfold Sz; kernel_rfl
theorem Zr3 : Zr Try.prog 3 (i64 0) := by unfold Zr; kernel_rfl
theorem Sz4 : Sz Try.prog 4 1 := by unfold Sz; kernel_rfl
theorem Zr4 : Zr Try.prog 4 (.bool false) := by unfold Zr; kernel_rfl
theorem Sz5 : Sz Try.prog 5 1 := by unfold Sz; kernel_rfl
theorem Zr5 : Zr Try.prog 5 (u8 0) := by unfold Zr; kernel_rfl
theorem Sz6 : Sz Try.prog 6 1 := by unfold Sz; kernel_rfl
theorem Zr6 : Zr Try.prog 6 (u8 0) := by unfold Zr; kernel_rfl
theorem Sz7 : Sz Try.prog 7 4 := by unfold Sz; kernel_rfl
theorem Zr7 : Zr Try.prog 7 (agg ([i64 0] ++ [i64 0] ++ [.bool false] ++ [u8 0])) := by unfold Zr; kernel_rfl
theorem Sz8 : Sz Try.prog 8 4 := by unfold Sz; kernel_rfl
theorem Zr8 : Zr Try.prog 8 (agg ([i64 0] ++ [i64 0] ++ [.bool false] ++ [u8 0])) := by unfold Zr; kernel_rfl
theorem Sz9 : Sz Try.prog 9 1 := by unfold Sz; kernel_rfl
theorem Zr9 : Zr Try.prog 9 (.string .empty) := by unfold Zr; kernel_rfl
theorem Sz10 : Sz Try.prog 10 1 := by unfold Sz; kernel_rfl
theorem Zr10 : Zr Try.prog 10 (.string .empty) := by unfold Zr; kernel_rfl
theorem Sz11 : Sz Try.prog 11 1 := by unfold Sz; kernel_rfl
theorem Zr11 : Zr Try.prog 11 (.string .empty) := by unfold Zr; kernel_rfl
theorem Sz12 : Sz Try.prog 12 1 := by unfold Sz; kernel_rfl
theorem Zr12 : Zr Try.prog 12 (u64 0) := by unfold Zr; kernel_rfl
theorem Sz13 : Sz Try.prog 13 2 := by unfold Sz; kernel_rfl
theorem Zr13 : Zr Try.prog 13 (agg ([.string .empty] ++ [u64 0])) := by unfold Zr; kernel_rfl
theorem Sz14 : Sz Try.prog 14 2 := by unfold Sz; kernel_rfl
theorem Zr14 : Zr Try.prog 14 (agg ([.string .empty] ++ [u64 0])) := by unfold Zr; kernel_rfl
theorem Sz15 : Sz Try.prog 15 1 := by unfold Sz; kernel_rfl
theorem Zr15 : Zr Try.prog 15 (.pointer none) := by unfold Zr; kernel_rfl
theorem Sz16 : Sz Try.prog 16 1 := by unfold Sz; kernel_rfl
theorem Zr16 : Zr Try.prog 16 (.pointer none) := by unfold Zr; kernel_rfl
theorem Sz17 : Sz Try.prog 17 1 := by unfold Sz; kernel_rfl
theorem Zr17 : Zr Try.prog 17 (.pointer none) := by unfold Zr; kernel_rfl
theorem Sz18 : Sz Try.prog 18 1 := by unfold Sz; kernel_rfl
theorem Zr18 : Zr Try.prog 18 (agg ([.pointer none])) := by unfold Zr; kernel_rfl
theorem Sz19 : Sz Try.prog 19 1 := by unfold Sz; kernel_rfl
theorem Zr19 : Zr Try.prog 19 (agg ([.pointer none])) := by unfold Zr; kernel_rfl
theorem Sz20 : Sz Try.prog 20 1 := by unfold Sz; kernel_rfl
theorem Zr20 : Zr Try.prog 20 (.nilIface) := by unfold Zr; kernel_rfl
theorem Sz21 : Sz Try.prog 21 1 := by unfold Sz; kernel_rfl
theorem Zr21 : Zr Try.prog 21 (.int .i32 0) := by unfold Zr; kernel_rfl
theorem Sz22 : Sz Try.prog 22 32 := by unfold Sz; kernel_rfl
theorem Zr22 : Zr Try.prog 22 (agg (bytesV (List.replicate 32 0))) := by unfold Zr; kernel_rfl
theorem Sz23 : Sz Try.prog 23 32 := by unfold Sz; kernel_rfl
theorem Zr23 : Zr Try.prog 23 (agg (bytesV (List.replicate 32 0))) := by unfold Zr; kernel_rfl
theorem Sz24 : Sz Try.prog 24 1 := by unfold Sz; kernel_rfl
theorem Zr24 : Zr Try.prog 24 (u64 0) := by unfold Zr; kernel_rfl
theorem Sz25 : Sz Try.prog 25 32 := by unfold Sz; kernel_rfl
theorem Zr25 : Zr Try.prog 25 (agg (bytesV (List.replicate 32 0))) := by unfold Zr; kernel_rfl
theorem Sz26 : Sz Try.prog 26 1 := by unfold Sz; kernel_rfl
theorem Zr26 : Zr Try.prog 26 (.slice none 0 0) := by unfold Zr; kernel_rfl
theorem Sz27 : Sz Try.prog 27 1 := by unfold Sz; kernel_rfl
theorem Zr27 : Zr Try.prog 27 (.slice none 0 0) := by unfold Zr; kernel_rfl
theorem Sz28 : Sz Try.prog 28 64 := by unfold Sz; kernel_rfl
theorem Zr28 : Zr Try.prog 28 (agg (bytesV (List.replicate 64 0))) := by unfold Zr; kernel_rfl
theorem Sz29 : Sz Try.prog 29 64 := by unfold Sz; kernel_rfl
theorem Zr29 : Zr Try.prog 29 (agg (bytesV (List.replicate 64 0))) := by unfold Zr; kernel_rfl
theorem Sz30 : Sz Try.prog 30 131 := by unfold Sz; kernel_rfl
theorem Zr30 : Zr Try.prog 30 (agg ((bytesV (List.replicate 32 0)) ++ [u64 0] ++ (bytesV (List.replicate 32 0)) ++ [.slice none 0 0] ++ [.slice none 0 0] ++ (bytesV (List.replicate 64 0)))) := by unfold Zr; kernel_rfl
theorem Sz31 : Sz Try.prog 31 131 := by unfold Sz; kernel_rfl
theorem Zr31 : Zr Try.prog 31 (agg ((bytesV (List.replicate 32 0)) ++ [u64 0] ++ (bytesV (List.replicate 32 0)) ++ [.slice none 0 0] ++ [.slice none 0 0] ++ (bytesV (List.replicate 64 0)))) := by unfold Zr; kernel_rfl
theorem Sz32 : Sz Try.prog 32 1 := by unfold Sz; kernel_rfl
theorem Zr32 : Zr Try.prog 32 (.nilFunc) := by unfold Zr; kernel_rfl
theorem Sz33 : Sz Try.prog 33 1 := by unfold Sz; kernel_rfl
theorem Zr33 : Zr Try.prog 33 (.nilFunc) := by unfold Zr; kernel_rfl
theorem Sz34 : Sz Try.prog 34 1 := by unfold Sz; kernel_rfl
theorem Zr34 : Zr Try.prog 34 (.slice none 0 0) := by unfold Zr; kernel_rfl
theorem Sz35 : Sz Try.prog 35 1 := by unfold Sz; kernel_rfl
theorem Zr35 : Zr Try.prog 35 (.nilFunc) := by unfold Zr; kernel_rfl
theorem Sz36 : Sz Try.prog 36 1 := by unfold Sz; kernel_rfl
theorem Zr36 : Zr Try.prog 36 (i64 0) := by unfold Zr; kernel_rfl
theorem Sz37 : Sz Try.prog 37 1 := by unfold Sz; kernel_rfl
theorem Zr37 : Zr Try.prog 37 (.nilFunc) := by unfold Zr; kernel_rfl
theorem Sz38 : Sz Try.prog 38 1 := by unfold Sz; kernel_rfl
theorem Zr38 : Zr Try.prog 38 (.nilFunc) := by unfold Zr; kernel_rfl
theorem Sz39 : Sz Try.prog 39 1 := by unfold Sz; kernel_rfl
theorem Zr39 : Zr Try.prog 39 (.nilFunc) := by unfold Zr; kernel_rfl
theorem Sz40 : Sz Try.prog 40 1 := by unfold Sz; kernel_rfl
theorem Zr40 : Zr Try.prog 40 (.nilFunc) := by unfold Zr; kernel_rfl
theorem Sz41 : Sz Try.prog 41 1 := by unfold Sz; kernel_rfl
theorem Zr41 : Zr Try.prog 41 (.nilFunc) := by unfold Zr; kernel_rfl
theorem Sz42 : Sz Try.prog 42 132 := by unfold Sz; kernel_rfl
theorem Zr42 : Zr Try.prog 42 (agg ([u64 0] ++ [u64 0] ++ [i64 0] ++ (bytesV (List.replicate 32 0)) ++ [u64 0] ++ (bytesV (List.replicate 32 0)) ++ (bytesV (List.replicate 64 0)))) := by unfold Zr; kernel_rfl
theorem Sz43 : Sz Try.prog 43 132 := by unfold Sz; kernel_rfl
theorem Zr43 : Zr Try.prog 43 (agg ([u64 0] ++ [u64 0] ++ [i64 0] ++ (bytesV (List.replicate 32 0)) ++ [u64 0] ++ (bytesV (List.replicate 32 0)) ++ (bytesV (List.replicate 64 0)))) := by unfold Zr; kernel_rfl
theorem Sz44 : Sz Try.prog 44 1 := by unfold Sz; kernel_rfl
theorem Zr44 : Zr Try.prog 44 (.nilFunc) := by unfold Zr; kernel_rfl
theorem Sz45 : Sz Try.prog 45 1 := by unfold Sz; kernel_rfl
theorem Zr45 : Zr Try.prog 45 (.nilFunc) := by unfold Zr; kernel_rfl
theorem Sz46 : Sz Try.prog 46 1 := by unfold Sz; kernel_rfl
theorem Zr46 : Zr Try.prog 46 (.nilFunc) := by unfold Zr; kernel_rfl
theorem Sz47 : Sz Try.prog 47 32 := by unfold Sz; kernel_rfl
theorem Zr47 : Zr Try.prog 47 (agg (bytesV (List.replicate 32 0))) := by unfold Zr; kernel_rfl
theorem Sz48 : Sz Try.prog 48 1 := by unfold Sz; kernel_rfl
theorem Zr48 : Zr Try.prog 48 (.nilFunc) := by unfold Zr; kernel_rfl
theorem Sz50 : Sz Try.prog 50 1 := by unfold Sz; kernel_rfl
theorem Zr50 : Zr Try.prog 50 (.nilFunc) := by unfold Zr; kernel_rfl
theorem Sz51 : Sz Try.prog 51 1 := by unfold Sz; kernel_rfl
theorem Zr51 : Zr Try.prog 51 (.nilFunc) := by unfold Zr; kernel_rfl
theorem Sz52 : Sz Try.prog 52 1 := by unfold Sz; kernel_rfl
theorem Zr52 : Zr Try.prog 52 (.nilFunc) := by unfold Zr; kernel_rfl
theorem Sz53 : Sz Try.prog 53 1 := by unfold Sz; kernel_rfl
theorem Zr53 : Zr Try.prog 53 (.nilFunc) := by unfold Zr; kernel_rfl
theorem Sz54 : Sz Try.prog 54 1 := by unfold Sz; kernel_rfl
theorem Zr54 : Zr Try.prog 54 (.nilFunc) := by unfold Zr; kernel_rfl
theorem Sz55 : Sz Try.prog 55 1 := by unfold Sz; kernel_rfl
theorem Zr55 : Zr Try.prog 55 (.nilFunc) := by unfold Zr; kernel_rfl
theorem Sz56 : Sz Try.prog 56 1 := by unfold Sz; kernel_rfl
theorem Zr56 : Zr Try.prog 56 (.nilFunc) := by unfold Zr; kernel_rfl
theorem Sz57 : Sz Try.prog 57 1 := by unfold Sz; kernel_rfl
theorem Zr57 : Zr Try.prog 57 (.nilFunc) := by unfold Zr; kernel_rfl
theorem Sz58 : Sz Try.prog 58 1 := by unfold Sz; kernel_rfl
theorem Zr58 : Zr Try.prog 58 (.nilFunc) := by unfold Zr; kernel_rfl
theorem Sz59 : Sz Try.prog 59 1 := by unfold Sz; kernel_rfl
theorem Zr59 : Zr Try.prog 59 (u32 0) := by unfold Zr; kernel_rfl
theorem Sz60 : Sz Try.prog 60 1 := by unfold Sz; kernel_rfl
theorem Zr60 : Zr Try.prog 60 (.nilFunc) := by unfold Zr; kernel_rfl
theorem Sz61 : Sz Try.prog 61 1 := by unfold Sz; kernel_rfl
theorem Zr61 : Zr Try.prog 61 (.nilFunc) := by unfold Zr; kernel_rfl
theorem Sz62 : Sz Try.prog 62 1 := by unfold Sz; kernel_rfl
theorem Zr62 : Zr Try.prog 62 (.nilFunc) := by unfold Zr; kernel_rfl
theorem Sz63 : Sz Try.prog 63 1 := by unfold Sz; kernel_rfl
theorem Zr63 : Zr Try.prog 63 (.nilFunc) := by unfold Zr; kernel_rfl
theorem Sz64 : Sz Try.prog 64 1 := by unfold Sz; kernel_rfl
theorem Zr64 : Zr Try.prog 64 (.nilFunc) := by unfold Zr; kernel_rfl
theorem Sz65 : Sz Try.prog 65 1 := by unfold Sz; kernel_rfl
theorem Zr65 : Zr Try.prog 65 (.nilFunc) := by unfold Zr; kernel_rfl
theorem Sz66 : Sz Try.prog 66 1 := by unfold Sz; kernel_rfl
theorem Zr66 : Zr Try.prog 66 (.nilFunc) := by unfold Zr; kernel_rfl
theorem Sz67 : Sz Try.prog 67 1 := by unfold Sz; kernel_rfl
theorem Zr67 : Zr Try.prog 67 (.nilFunc) := by unfold Zr; kernel_rfl
theorem Sz68 : Sz Try.prog 68 6 := by unfold Sz; kernel_rfl
theorem Zr68 : Zr Try.prog 68 (agg (intsV (List.replicate 6 0))) := by unfold Zr; kernel_rfl
theorem Sz69 : Sz Try.prog 69 1 := by unfold Sz; kernel_rfl
theorem Zr69 : Zr Try.prog 69 (.nilFunc) := by unfold Zr; kernel_rfl
theorem Sz70 : Sz Try.prog 70 1 := by unfold Sz; kernel_rfl
theorem Zr70 : Zr Try.prog 70 (.slice none 0 0) := by unfold Zr; kernel_rfl
theorem Sz71 : Sz Try.prog 71 4 := by unfold Sz; kernel_rfl
theorem Zr71 : Zr Try.prog 71 (agg (wordsV (List.replicate 4 0))) := by unfold Zr; kernel_rfl
theorem Sz72 : Sz Try.prog 72 4 := by unfold Sz; kernel_rfl
theorem Zr72 : Zr Try.prog 72 (agg (wordsV (List.replicate 4 0))) := by unfold Zr; kernel_rfl
theorem Sz73 : Sz Try.prog 73 1 := by unfold Sz; kernel_rfl
theorem Zr73 : Zr Try.prog 73 (.nilFunc) := by unfold Zr; kernel_rfl
theorem Sz74 : Sz Try.prog 74 8 := by unfold Sz; kernel_rfl
theorem Zr74 : Zr Try.prog 74 (agg (wordsV (List.replicate 8 0))) := by unfold Zr; kernel_rfl
theorem Sz75 : Sz Try.prog 75 1 := by unfold Sz; kernel_rfl
theorem Zr75 : Zr Try.prog 75 (.nilFunc) := by unfold Zr; kernel_rfl
theorem Sz76 : Sz Try.prog 76 1 := by unfold Sz; kernel_rfl
theorem Zr76 : Zr Try.prog 76 (.slice none 0 0) := by unfold Zr; kernel_rfl
theorem Sz77 : Sz Try.prog 77 1 := by unfold Sz; kernel_rfl
theorem Zr77 : Zr Try.prog 77 (.nilFunc) := by unfold Zr; kernel_rfl
theorem Sz78 : Sz Try.prog 78 1 := by unfold Sz; kernel_rfl
theorem Zr78 : Zr Try.prog 78 (.nilFunc) := by unfold Zr; kernel_rfl
theorem Sz79 : Sz Try.prog 79 1 := by unfold Sz; kernel_rfl
theorem Zr79 : Zr Try.prog 79 (.nilFunc) := by unfold Zr; kernel_rfl
theorem Sz80 : Sz Try.prog 80 1 := by unfold Sz; kernel_rfl
theorem Zr80 : Zr Try.prog 80 (u64 0) := by unfold Zr; kernel_rfl
theorem Sz82 : Sz Try.prog 82 1 := by unfold Sz; kernel_rfl
theorem Zr82 : Zr Try.prog 82 (.nilFunc) := by unfold Zr; kernel_rfl
theorem Sz83 : Sz Try.prog 83 1 := by unfold Sz; kernel_rfl
theorem Zr83 : Zr Try.prog 83 (.nilFunc) := by unfold Zr; kernel_rfl
theorem Sz84 : Sz Try.prog 84 1 := by unfold Sz; kernel_rfl
theorem Zr84 : Zr Try.prog 84 (.nilFunc) := by unfold Zr; kernel_rfl
theorem Sz85 : Sz Try.prog 85 1 := by unfold Sz; kernel_rfl
theorem Zr85 : Zr Try.prog 85 (.nilFunc) := by unfold Zr; kernel_rfl
theorem Sz86 : Sz Try.prog 86 64 := by unfold Sz; kernel_rfl
theorem Zr86 : Zr Try.prog 86 (agg (intsV (List.replicate 64 0))) := by unfold Zr; kernel_rfl
theorem Sz87 : Sz Try.prog 87 1 := by unfold Sz; kernel_rfl
theorem Zr87 : Zr Try.prog 87 (.nilFunc) := by unfold Zr; kernel_rfl
theorem Sz88 : Sz Try.prog 88 1 := by unfold Sz; kernel_rfl
theorem Zr88 : Zr Try.prog 88 (.nilFunc) := by unfold Zr; kernel_rfl
theorem Sz89 : Sz Try.prog 89 1 := by unfold Sz; kernel_rfl
theorem Zr89 : Zr Try.prog 89 (.nilFunc) := by unfold Zr; kernel_rfl
theorem Sz90 : Sz Try.prog 90 1 := by unfold Sz; kernel_rfl
theorem Zr90 : Zr Try.prog 90 (.nilFunc) := by unfold Zr; kernel_rfl
theorem Sz91 : Sz Try.prog 91 1 := by unfold Sz; kernel_rfl
theorem Zr91 : Zr Try.prog 91 (.nilFunc) := by unfold Zr; kernel_rfl
theorem Sz92 : Sz Try.prog 92 4 := by unfold Sz; kernel_rfl
theorem Zr92 : Zr Try.prog 92 (agg ([.pointer none] ++ [.pointer none] ++ [.pointer none] ++ [.string .empty])) := by unfold Zr; kernel_rfl
theorem Sz93 : Sz Try.prog 93 4 := by unfold Sz; kernel_rfl
theorem Zr93 : Zr Try.prog 93 (agg ([.pointer none] ++ [.pointer none] ++ [.pointer none] ++ [.string .empty])) := by unfold Zr; kernel_rfl
theorem Sz94 : Sz Try.prog 94 0 := by unfold Sz; kernel_rfl
theorem Zr94 : Zr Try.prog 94 (agg (List.replicate 0 [.pointer none]).flatten) := by unfold Zr; kernel_rfl
theorem Sz95 : Sz Try.prog 95 0 := by unfold Sz; kernel_rfl
theorem Zr95 : Zr Try.prog 95 (agg ((List.replicate 0 [.pointer none]).flatten)) := by unfold Zr; kernel_rfl
theorem Sz96 : Sz Try.prog 96 0 := by unfold Sz; kernel_rfl
theorem Zr96 : Zr Try.prog 96 (agg ((List.replicate 0 [.pointer none]).flatten)) := by unfold Zr; kernel_rfl
theorem Sz97 : Sz Try.prog 97 1 := by unfold Sz; kernel_rfl
theorem Zr97 : Zr Try.prog 97 (.nilFunc) := by unfold Zr; kernel_rfl
theorem Sz98 : Sz Try.prog 98 1 := by unfold Sz; kernel_rfl
theorem Zr98 : Zr Try.prog 98 (u8 0) := by unfold Zr; kernel_rfl
theorem Sz99 : Sz Try.prog 99 1 := by unfold Sz; kernel_rfl
theorem Zr99 : Zr Try.prog 99 (u8 0) := by unfold Zr; kernel_rfl
theorem Sz100 : Sz Try.prog 100 1 := by unfold Sz; kernel_rfl
theorem Zr100 : Zr Try.prog 100 (.nilFunc) := by unfold Zr; kernel_rfl
theorem Sz101 : Sz Try.prog 101 1 := by unfold Sz; kernel_rfl
theorem Zr101 : Zr Try.prog 101 (.pointer none) := by unfold Zr; kernel_rfl
theorem Sz102 : Sz Try.prog 102 1 := by unfold Sz; kernel_rfl
theorem Zr102 : Zr Try.prog 102 (.int .i32 0) := by unfold Zr; kernel_rfl
theorem Sz103 : Sz Try.prog 103 1 := by unfold Sz; kernel_rfl
theorem Zr103 : Zr Try.prog 103 (.int .i32 0) := by unfold Zr; kernel_rfl
theorem Sz104 : Sz Try.prog 104 11 := by unfold Sz; kernel_rfl
theorem Zr104 : Zr Try.prog 104 (agg ([u64 0] ++ [u64 0] ++ [u32 0] ++ [u8 0] ++ [u8 0] ++ [u8 0] ++ [u8 0] ++ [.nilFunc] ++ [.pointer none] ++ [.int .i32 0] ++ [.int .i32 0])) := by unfold Zr; kernel_rfl
theorem Sz105 : Sz Try.prog 105 11 := by unfold Sz; kernel_rfl
theorem Zr105 : Zr Try.prog 105 (agg ([u64 0] ++ [u64 0] ++ [u32 0] ++ [u8 0] ++ [u8 0] ++ [u8 0] ++ [u8 0] ++ [.nilFunc] ++ [.pointer none] ++ [.int .i32 0] ++ [.int .i32 0])) := by unfold Zr; kernel_rfl
theorem Sz106 : Sz Try.prog 106 1 := by unfold Sz; kernel_rfl
theorem Body2 : Body Try.prog 2 := fun _ _ => (by kernel_rfl)
theorem Body3 : Body Try.prog 3 := fun _ _ => (by kernel_rfl)
theorem Body4 : Body Try.prog 4 := fun _ _ => (by kernel_rfl)
theorem Body5 : Body Try.prog 5 := fun _ _ => (by kernel_rfl)
theorem Body6 : Body Try.prog 6 := fun _ _ => (by kernel_rfl)
theorem Body7 : Body Try.prog 7 := fun _ _ => (by kernel_rfl)
theorem Body8 : Body Try.prog 8 := fun _ _ => (by kernel_rfl)
theorem Body9 : Body Try.prog 9 := fun _ _ => (by kernel_rfl)
theorem Body10 : Body Try.prog 10 := fun _ _ => (by kernel_rfl)
theorem Body11 : Body Try.prog 11 := fun _ _ => (by kernel_rfl)
theorem Body12 : Body Try.prog 12 := fun _ _ => (by kernel_rfl)
theorem Body13 : Body Try.prog 13 := fun _ _ => (by kernel_rfl)
theorem Body14 : Body Try.prog 14 := fun _ _ => (by kernel_rfl)
theorem Body15 : Body Try.prog 15 := fun _ _ => (by kernel_rfl)
theorem Body16 : Body Try.prog 16 := fun _ _ => (by kernel_rfl)
theorem Body17 : Body Try.prog 17 := fun _ _ => (by kernel_rfl)
theorem Body18 : Body Try.prog 18 := fun _ _ => (by kernel_rfl)
theorem Body19 : Body Try.prog 19 := fun _ _ => (by kernel_rfl)
theorem Body20 : Body Try.prog 20 := fun _ _ => (by kernel_rfl)
theorem Body21 : Body Try.prog 21 := fun _ _ => (by kernel_rfl)
theorem Body22 : Body Try.prog 22 := fun _ _ => (by kernel_rfl)
theorem Body23 : Body Try.prog 23 := fun _ _ => (by kernel_rfl)
theorem Body24 : Body Try.prog 24 := fun _ _ => (by kernel_rfl)
theorem Body25 : Body Try.prog 25 := fun _ _ => (by kernel_rfl)
theorem Body26 : Body Try.prog 26 := fun _ _ => (by kernel_rfl)
theorem Body27 : Body Try.prog 27 := fun _ _ => (by kernel_rfl)
theorem Body28 : Body Try.prog 28 := fun _ _ => (by kernel_rfl)
theorem Body29 : Body Try.prog 29 := fun _ _ => (by kernel_rfl)
theorem Body30 : Body Try.prog 30 := fun _ _ => (by kernel_rfl)
theorem Body31 : Body Try.prog 31 := fun _ _ => (by kernel_rfl)
theorem Body32 : Body Try.prog 32 := fun _ _ => (by kernel_rfl)
theorem Body33 : Body Try.prog 33 := fun _ _ => (by kernel_rfl)
theorem Body34 : Body Try.prog 34 := fun _ _ => (by kernel_rfl)
theorem Body35 : Body Try.prog 35 := fun _ _ => (by kernel_rfl)
theorem Body36 : Body Try.prog 36 := fun _ _ => (by kernel_rfl)
theorem Body37 : Body Try.prog 37 := fun _ _ => (by kernel_rfl)
theorem Body38 : Body Try.prog 38 := fun _ _ => (by kernel_rfl)
theorem Body39 : Body Try.prog 39 := fun _ _ => (by kernel_rfl)
theorem Body40 : Body Try.prog 40 := fun _ _ => (by kernel_rfl)
theorem Body41 : Body Try.prog 41 := fun _ _ => (by kernel_rfl)
theorem Body42 : Body Try.prog 42 := fun _ _ => (by kernel_rfl)
theorem Body43 : Body Try.prog 43 := fun _ _ => (by kernel_rfl)
theorem Body44 : Body Try.prog 44 := fun _ _ => (by kernel_rfl)
theorem Body45 : Body Try.prog 45 := fun _ _ => (by kernel_rfl)
theorem Body46 : Body Try.prog 46 := fun _ _ => (by kernel_rfl)
theorem Body47 : Body Try.prog 47 := fun _ _ => (by kernel_rfl)
theorem Body48 : Body Try.prog 48 := fun _ _ => (by kernel_rfl)
theorem Body49 : Body Try.prog 49 := fun _ _ => (by kernel_rfl)
theorem Body50 : Body Try.prog 50 := fun _ _ => (by kernel_rfl)
theorem Body52 : Body Try.prog 52 := fun _ _ => (by kernel_rfl)
theorem Body53 : Body Try.prog 53 := fun _ _ => (by kernel_rfl)
theorem Body54 : Body Try.prog 54 := fun _ _ => (by kernel_rfl)
theorem Body55 : Body Try.prog 55 := fun _ _ => (by kernel_rfl)
theorem Body57 : Body Try.prog 57 := fun _ _ => (by kernel_rfl)
theorem Body58 : Body Try.prog 58 := fun _ _ => (by kernel_rfl)
theorem Body59 : Body Try.prog 59 := fun _ _ => (by kernel_rfl)
theorem Body60 : Body Try.prog 60 := fun _ _ => (by kernel_rfl)
theorem Mixed : Try.prog.follows .mixedOrders = true := by kernel_rfl
end Go.Proofs.Ytjeggfgbcafenaa
