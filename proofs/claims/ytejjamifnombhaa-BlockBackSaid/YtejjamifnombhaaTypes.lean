/- Closed facts on the types and functions of the loaded program. No conditions. -/
import Derived.Test.YtejjamifnombhaaOps
import Derived.Test.YtejjamifnombhaaRows
import Derived.KernelRfl
namespace Go.Proofs.Ytejjamifnombhaa
open Go Hw
theorem Sz1 : Sz Try.prog 1 1 := by unfold Sz; kernel_rfl
theorem Zr1 : Zr Try.prog 1 (.nilFunc) := by unfold Zr; kernel_rfl
theorem Sz2 : Sz Try.prog 2 1 := by unfold Sz; kernel_rfl
theorem Zr2 : Zr Try.prog 2 (i64 0) := by unfold Zr; kernel_rfl
theorem Sz3 : Sz Try.prog 3 1 := by unfold Sz; kernel_rfl
theorem Zr3 : Zr Try.prog 3 (i64 0) := by unfold Zr; kernel_rfl
theorem Sz4 : Sz Try.prog 4 1 := by unfold Sz; kernel_rfl
theorem Zr4 : Zr Try.prog 4 (.bool false) := by unfold Zr; kernel_rfl
theorem Sz5 : Sz Try.prog 5 1 := by unfold Sz; kernel_rfl
theorem Zr5 : Zr Try.prog 5 (u8 0) := by unfold Zr; kernel_rfl
theorem Sz6 : Sz Try.prog 6 1 := by unfold Sz; kernel_rfl
theorem Zr6 : Zr Try.prog 6 (u8 0) := by unfold Zr; kernel_rfl
theorem Sz7 : Sz Try.prog 7 4 := by unfold Sz; kernel_rfl
theorem Zr7 : Zr Try.prog 7 (agg ([i64 0] ++ [i64 0] ++ [.bool false] ++ [u8 0])) := by unfold Zr; kernel_rfl
theorem Sz8 : Sz Try.prog 8 4 := by unfold Sz; kernel_rfl
theorem Zr8 : Zr Try.prog 8 (agg ([i64 0] ++ [i64 0] ++ [.bool false] ++ [u8 0])) := by unfold Zr; kernel_rfl
theorem Sz9 : Sz Try.prog 9 1 := by unfold Sz; kernel_rfl
theorem Zr9 : Zr Try.prog 9 (.string .empty) := by unfold Zr; kernel_rfl
theorem Sz10 : Sz Try.prog 10 1 := by unfold Sz; kernel_rfl
theorem Zr10 : Zr Try.prog 10 (.string .empty) := by unfold Zr; kernel_rfl
theorem Sz11 : Sz Try.prog 11 1 := by unfold Sz; kernel_rfl
theorem Zr11 : Zr Try.prog 11 (.string .empty) := by unfold Zr; kernel_rfl
theorem Sz12 : Sz Try.prog 12 1 := by unfold Sz; kernel_rfl
theorem Zr12 : Zr Try.prog 12 (u64 0) := by unfold Zr; kernel_rfl
theorem Sz13 : Sz Try.prog 13 2 := by unfold Sz; kernel_rfl
theorem Zr13 : Zr Try.prog 13 (agg ([.string .empty] ++ [u64 0])) := by unfold Zr; kernel_rfl
theorem Sz14 : Sz Try.prog 14 2 := by unfold Sz; kernel_rfl
theorem Zr14 : Zr Try.prog 14 (agg ([.string .empty] ++ [u64 0])) := by unfold Zr; kernel_rfl
theorem Sz15 : Sz Try.prog 15 1 := by unfold Sz; kernel_rfl
theorem Zr15 : Zr Try.prog 15 (.pointer none) := by unfold Zr; kernel_rfl
theorem Sz16 : Sz Try.prog 16 1 := by unfold Sz; kernel_rfl
theorem Zr16 : Zr Try.prog 16 (.pointer none) := by unfold Zr; kernel_rfl
theorem Sz17 : Sz Try.prog 17 1 := by unfold Sz; kernel_rfl
theorem Zr17 : Zr Try.prog 17 (.pointer none) := by unfold Zr; kernel_rfl
theorem Sz18 : Sz Try.prog 18 1 := by unfold Sz; kernel_rfl
theorem Zr18 : Zr Try.prog 18 (agg ([.pointer none])) := by unfold Zr; kernel_rfl
theorem Sz19 : Sz Try.prog 19 1 := by unfold Sz; kernel_rfl
theorem Zr19 : Zr Try.prog 19 (agg ([.pointer none])) := by unfold Zr; kernel_rfl
theorem Sz20 : Sz Try.prog 20 1 := by unfold Sz; kernel_rfl
theorem Zr20 : Zr Try.prog 20 (.nilIface) := by unfold Zr; kernel_rfl
theorem Sz21 : Sz Try.prog 21 1 := by unfold Sz; kernel_rfl
theorem Zr21 : Zr Try.prog 21 (.int .i32 0) := by unfold Zr; kernel_rfl
theorem Sz22 : Sz Try.prog 22 32 := by unfold Sz; kernel_rfl
theorem Zr22 : Zr Try.prog 22 (agg (bytesV (List.replicate 32 0))) := by unfold Zr; kernel_rfl
theorem Sz23 : Sz Try.prog 23 32 := by unfold Sz; kernel_rfl
theorem Zr23 : Zr Try.prog 23 (agg (bytesV (List.replicate 32 0))) := by unfold Zr; kernel_rfl
theorem Sz24 : Sz Try.prog 24 1 := by unfold Sz; kernel_rfl
theorem Zr24 : Zr Try.prog 24 (u64 0) := by unfold Zr; kernel_rfl
theorem Sz25 : Sz Try.prog 25 32 := by unfold Sz; kernel_rfl
theorem Zr25 : Zr Try.prog 25 (agg (bytesV (List.replicate 32 0))) := by unfold Zr; kernel_rfl
theorem Sz26 : Sz Try.prog 26 1 := by unfold Sz; kernel_rfl
theorem Zr26 : Zr Try.prog 26 (.slice none 0 0) := by unfold Zr; kernel_rfl
theorem Sz27 : Sz Try.prog 27 1 := by unfold Sz; kernel_rfl
theorem Zr27 : Zr Try.prog 27 (.slice none 0 0) := by unfold Zr; kernel_rfl
theorem Sz28 : Sz Try.prog 28 64 := by unfold Sz; kernel_rfl
theorem Zr28 : Zr Try.prog 28 (agg (bytesV (List.replicate 64 0))) := by unfold Zr; kernel_rfl
theorem Sz29 : Sz Try.prog 29 64 := by unfold Sz; kernel_rfl
theorem Zr29 : Zr Try.prog 29 (agg (bytesV (List.replicate 64 0))) := by unfold Zr; kernel_rfl
theorem Sz30 : Sz Try.prog 30 131 := by unfold Sz; kernel_rfl
theorem Zr30 : Zr Try.prog 30 (agg ((bytesV (List.replicate 32 0)) ++ [u64 0] ++ (bytesV (List.replicate 32 0)) ++ [.slice none 0 0] ++ [.slice none 0 0] ++ (bytesV (List.replicate 64 0)))) := by unfold Zr; kernel_rfl
theorem Sz31 : Sz Try.prog 31 131 := by unfold Sz; kernel_rfl
theorem Zr31 : Zr Try.prog 31 (agg ((bytesV (List.replicate 32 0)) ++ [u64 0] ++ (bytesV (List.replicate 32 0)) ++ [.slice none 0 0] ++ [.slice none 0 0] ++ (bytesV (List.replicate 64 0)))) := by unfold Zr; kernel_rfl
theorem Sz32 : Sz Try.prog 32 1 := by unfold Sz; kernel_rfl
theorem Zr32 : Zr Try.prog 32 (.nilFunc) := by unfold Zr; kernel_rfl
theorem Sz33 : Sz Try.prog 33 1 := by unfold Sz; kernel_rfl
theorem Zr33 : Zr Try.prog 33 (.nilFunc) := by unfold Zr; kernel_rfl
theorem Sz34 : Sz Try.prog 34 1 := by unfold Sz; kernel_rfl
theorem Zr34 : Zr Try.prog 34 (.slice none 0 0) := by unfold Zr; kernel_rfl
theorem Sz35 : Sz Try.prog 35 1 := by unfold Sz; kernel_rfl
theorem Zr35 : Zr Try.prog 35 (i64 0) := by unfold Zr; kernel_rfl
theorem Sz37 : Sz Try.prog 37 1 := by unfold Sz; kernel_rfl
theorem Zr37 : Zr Try.prog 37 (.nilFunc) := by unfold Zr; kernel_rfl
theorem Sz38 : Sz Try.prog 38 1 := by unfold Sz; kernel_rfl
theorem Zr38 : Zr Try.prog 38 (.nilFunc) := by unfold Zr; kernel_rfl
theorem Sz40 : Sz Try.prog 40 1 := by unfold Sz; kernel_rfl
theorem Zr40 : Zr Try.prog 40 (.nilFunc) := by unfold Zr; kernel_rfl
theorem Sz41 : Sz Try.prog 41 1 := by unfold Sz; kernel_rfl
theorem Zr41 : Zr Try.prog 41 (.nilFunc) := by unfold Zr; kernel_rfl
theorem Sz42 : Sz Try.prog 42 1 := by unfold Sz; kernel_rfl
theorem Zr42 : Zr Try.prog 42 (.nilFunc) := by unfold Zr; kernel_rfl
theorem Sz43 : Sz Try.prog 43 1 := by unfold Sz; kernel_rfl
theorem Zr43 : Zr Try.prog 43 (.nilFunc) := by unfold Zr; kernel_rfl
theorem Sz44 : Sz Try.prog 44 1 := by unfold Sz; kernel_rfl
theorem Zr44 : Zr Try.prog 44 (.nilFunc) := by unfold Zr; kernel_rfl
theorem Sz45 : Sz Try.prog 45 1 := by unfold Sz; kernel_rfl
theorem Zr45 : Zr Try.prog 45 (.slice none 0 0) := by unfold Zr; kernel_rfl
theorem Sz46 : Sz Try.prog 46 1 := by unfold Sz; kernel_rfl
theorem Zr46 : Zr Try.prog 46 (.slice none 0 0) := by unfold Zr; kernel_rfl
theorem Sz47 : Sz Try.prog 47 1 := by unfold Sz; kernel_rfl
theorem Zr47 : Zr Try.prog 47 (.slice none 0 0) := by unfold Zr; kernel_rfl
theorem Sz48 : Sz Try.prog 48 8 := by unfold Sz; kernel_rfl
theorem Zr48 : Zr Try.prog 48 (agg ([i64 0] ++ [u64 0] ++ [.slice none 0 0] ++ [.slice none 0 0] ++ [.slice none 0 0] ++ [.slice none 0 0] ++ [.slice none 0 0] ++ [.slice none 0 0])) := by unfold Zr; kernel_rfl
theorem Sz49 : Sz Try.prog 49 8 := by unfold Sz; kernel_rfl
theorem Zr49 : Zr Try.prog 49 (agg ([i64 0] ++ [u64 0] ++ [.slice none 0 0] ++ [.slice none 0 0] ++ [.slice none 0 0] ++ [.slice none 0 0] ++ [.slice none 0 0] ++ [.slice none 0 0])) := by unfold Zr; kernel_rfl
theorem Sz50 : Sz Try.prog 50 1 := by unfold Sz; kernel_rfl
theorem Zr50 : Zr Try.prog 50 (.nilFunc) := by unfold Zr; kernel_rfl
theorem Sz51 : Sz Try.prog 51 1 := by unfold Sz; kernel_rfl
theorem Zr51 : Zr Try.prog 51 (.nilFunc) := by unfold Zr; kernel_rfl
theorem Sz52 : Sz Try.prog 52 1 := by unfold Sz; kernel_rfl
theorem Zr52 : Zr Try.prog 52 (.nilFunc) := by unfold Zr; kernel_rfl
theorem Sz53 : Sz Try.prog 53 1 := by unfold Sz; kernel_rfl
theorem Zr53 : Zr Try.prog 53 (.nilFunc) := by unfold Zr; kernel_rfl
theorem Sz54 : Sz Try.prog 54 1 := by unfold Sz; kernel_rfl
theorem Zr54 : Zr Try.prog 54 (.nilFunc) := by unfold Zr; kernel_rfl
theorem Sz55 : Sz Try.prog 55 1 := by unfold Sz; kernel_rfl
theorem Zr55 : Zr Try.prog 55 (.nilFunc) := by unfold Zr; kernel_rfl
theorem Sz56 : Sz Try.prog 56 1 := by unfold Sz; kernel_rfl
theorem Zr56 : Zr Try.prog 56 (.nilFunc) := by unfold Zr; kernel_rfl
theorem Sz57 : Sz Try.prog 57 1 := by unfold Sz; kernel_rfl
theorem Zr57 : Zr Try.prog 57 (.slice none 0 0) := by unfold Zr; kernel_rfl
theorem Sz58 : Sz Try.prog 58 1 := by unfold Sz; kernel_rfl
theorem Zr58 : Zr Try.prog 58 (agg ([.slice none 0 0])) := by unfold Zr; kernel_rfl
theorem Sz59 : Sz Try.prog 59 1 := by unfold Sz; kernel_rfl
theorem Zr59 : Zr Try.prog 59 (agg ([.slice none 0 0])) := by unfold Zr; kernel_rfl
theorem Sz61 : Sz Try.prog 61 1 := by unfold Sz; kernel_rfl
theorem Zr61 : Zr Try.prog 61 (.nilFunc) := by unfold Zr; kernel_rfl
theorem Sz62 : Sz Try.prog 62 1 := by unfold Sz; kernel_rfl
theorem Zr62 : Zr Try.prog 62 (.nilFunc) := by unfold Zr; kernel_rfl
theorem Sz64 : Sz Try.prog 64 1 := by unfold Sz; kernel_rfl
theorem Zr64 : Zr Try.prog 64 (.nilFunc) := by unfold Zr; kernel_rfl
theorem Sz65 : Sz Try.prog 65 1 := by unfold Sz; kernel_rfl
theorem Zr65 : Zr Try.prog 65 (.nilFunc) := by unfold Zr; kernel_rfl
theorem Sz66 : Sz Try.prog 66 1 := by unfold Sz; kernel_rfl
theorem Zr66 : Zr Try.prog 66 (.nilFunc) := by unfold Zr; kernel_rfl
theorem Sz67 : Sz Try.prog 67 34 := by unfold Sz; kernel_rfl
theorem Zr67 : Zr Try.prog 67 (agg ([u64 0] ++ (bytesV (List.replicate 32 0)) ++ [.slice none 0 0])) := by unfold Zr; kernel_rfl
theorem Sz68 : Sz Try.prog 68 34 := by unfold Sz; kernel_rfl
theorem Zr68 : Zr Try.prog 68 (agg ([u64 0] ++ (bytesV (List.replicate 32 0)) ++ [.slice none 0 0])) := by unfold Zr; kernel_rfl
theorem Sz69 : Sz Try.prog 69 35 := by unfold Sz; kernel_rfl
theorem Zr69 : Zr Try.prog 69 (agg (([u64 0] ++ (bytesV (List.replicate 32 0)) ++ [.slice none 0 0]) ++ [.slice none 0 0])) := by unfold Zr; kernel_rfl
theorem Sz70 : Sz Try.prog 70 35 := by unfold Sz; kernel_rfl
theorem Zr70 : Zr Try.prog 70 (agg (([u64 0] ++ (bytesV (List.replicate 32 0)) ++ [.slice none 0 0]) ++ [.slice none 0 0])) := by unfold Zr; kernel_rfl
theorem Sz71 : Sz Try.prog 71 132 := by unfold Sz; kernel_rfl
theorem Zr71 : Zr Try.prog 71 (agg ([u64 0] ++ [u64 0] ++ [i64 0] ++ (bytesV (List.replicate 32 0)) ++ [u64 0] ++ (bytesV (List.replicate 32 0)) ++ (bytesV (List.replicate 64 0)))) := by unfold Zr; kernel_rfl
theorem Sz72 : Sz Try.prog 72 132 := by unfold Sz; kernel_rfl
theorem Zr72 : Zr Try.prog 72 (agg ([u64 0] ++ [u64 0] ++ [i64 0] ++ (bytesV (List.replicate 32 0)) ++ [u64 0] ++ (bytesV (List.replicate 32 0)) ++ (bytesV (List.replicate 64 0)))) := by unfold Zr; kernel_rfl
theorem Sz73 : Sz Try.prog 73 1 := by unfold Sz; kernel_rfl
theorem Zr73 : Zr Try.prog 73 (.nilFunc) := by unfold Zr; kernel_rfl
theorem Sz74 : Sz Try.prog 74 1 := by unfold Sz; kernel_rfl
theorem Zr74 : Zr Try.prog 74 (.nilFunc) := by unfold Zr; kernel_rfl
theorem Sz75 : Sz Try.prog 75 2 := by unfold Sz; kernel_rfl
theorem Zr75 : Zr Try.prog 75 (agg ([u8 0] ++ [.slice none 0 0])) := by unfold Zr; kernel_rfl
theorem Sz76 : Sz Try.prog 76 2 := by unfold Sz; kernel_rfl
theorem Zr76 : Zr Try.prog 76 (agg ([u8 0] ++ [.slice none 0 0])) := by unfold Zr; kernel_rfl
theorem Sz78 : Sz Try.prog 78 1 := by unfold Sz; kernel_rfl
theorem Zr78 : Zr Try.prog 78 (.nilFunc) := by unfold Zr; kernel_rfl
theorem Sz79 : Sz Try.prog 79 1 := by unfold Sz; kernel_rfl
theorem Zr79 : Zr Try.prog 79 (.nilFunc) := by unfold Zr; kernel_rfl
theorem Sz80 : Sz Try.prog 80 1 := by unfold Sz; kernel_rfl
theorem Zr80 : Zr Try.prog 80 (.nilFunc) := by unfold Zr; kernel_rfl
theorem Sz81 : Sz Try.prog 81 1 := by unfold Sz; kernel_rfl
theorem Zr81 : Zr Try.prog 81 (.nilFunc) := by unfold Zr; kernel_rfl
theorem Sz82 : Sz Try.prog 82 1 := by unfold Sz; kernel_rfl
theorem Zr82 : Zr Try.prog 82 (.nilFunc) := by unfold Zr; kernel_rfl
theorem Sz83 : Sz Try.prog 83 1 := by unfold Sz; kernel_rfl
theorem Zr83 : Zr Try.prog 83 (.nilFunc) := by unfold Zr; kernel_rfl
theorem Sz84 : Sz Try.prog 84 4 := by unfold Sz; kernel_rfl
theorem Zr84 : Zr Try.prog 84 (agg ([.slice none 0 0] ++ [.slice none 0 0] ++ [.slice none 0 0] ++ [.slice none 0 0])) := by unfold Zr; kernel_rfl
theorem Sz85 : Sz Try.prog 85 4 := by unfold Sz; kernel_rfl
theorem Zr85 : Zr Try.prog 85 (agg ([.slice none 0 0] ++ [.slice none 0 0] ++ [.slice none 0 0] ++ [.slice none 0 0])) := by unfold Zr; kernel_rfl
theorem Sz87 : Sz Try.prog 87 1 := by unfold Sz; kernel_rfl
theorem Zr87 : Zr Try.prog 87 (.nilFunc) := by unfold Zr; kernel_rfl
theorem Sz88 : Sz Try.prog 88 1 := by unfold Sz; kernel_rfl
theorem Zr88 : Zr Try.prog 88 (.slice none 0 0) := by unfold Zr; kernel_rfl
theorem Sz89 : Sz Try.prog 89 1 := by unfold Sz; kernel_rfl
theorem Zr89 : Zr Try.prog 89 (.nilFunc) := by unfold Zr; kernel_rfl
theorem Sz90 : Sz Try.prog 90 1 := by unfold Sz; kernel_rfl
theorem Zr90 : Zr Try.prog 90 (.pointer none) := by unfold Zr; kernel_rfl
theorem Sz91 : Sz Try.prog 91 1 := by unfold Sz; kernel_rfl
theorem Zr91 : Zr Try.prog 91 (.nilFunc) := by unfold Zr; kernel_rfl
theorem Sz92 : Sz Try.prog 92 1 := by unfold Sz; kernel_rfl
theorem Zr92 : Zr Try.prog 92 (.nilFunc) := by unfold Zr; kernel_rfl
theorem Sz93 : Sz Try.prog 93 1 := by unfold Sz; kernel_rfl
theorem Zr93 : Zr Try.prog 93 (.nilFunc) := by unfold Zr; kernel_rfl
theorem Sz94 : Sz Try.prog 94 1 := by unfold Sz; kernel_rfl
theorem Zr94 : Zr Try.prog 94 (.nilFunc) := by unfold Zr; kernel_rfl
theorem Sz95 : Sz Try.prog 95 1 := by unfold Sz; kernel_rfl
theorem Zr95 : Zr Try.prog 95 (.nilFunc) := by unfold Zr; kernel_rfl
theorem Sz96 : Sz Try.prog 96 1 := by unfold Sz; kernel_rfl
theorem Zr96 : Zr Try.prog 96 (.nilFunc) := by unfold Zr; kernel_rfl
theorem Sz97 : Sz Try.prog 97 1 := by unfold Sz; kernel_rfl
theorem Zr97 : Zr Try.prog 97 (.nilFunc) := by unfold Zr; kernel_rfl
theorem Sz98 : Sz Try.prog 98 1 := by unfold Sz; kernel_rfl
theorem Zr98 : Zr Try.prog 98 (.nilFunc) := by unfold Zr; kernel_rfl
theorem Sz99 : Sz Try.prog 99 1 := by unfold Sz; kernel_rfl
theorem Zr99 : Zr Try.prog 99 (.nilFunc) := by unfold Zr; kernel_rfl
theorem Sz100 : Sz Try.prog 100 1 := by unfold Sz; kernel_rfl
theorem Zr100 : Zr Try.prog 100 (.nilFunc) := by unfold Zr; kernel_rfl
theorem Sz101 : Sz Try.prog 101 1 := by unfold Sz; kernel_rfl
theorem Zr101 : Zr Try.prog 101 (.nilFunc) := by unfold Zr; kernel_rfl
theorem Sz102 : Sz Try.prog 102 1 := by unfold Sz; kernel_rfl
theorem Zr102 : Zr Try.prog 102 (.nilFunc) := by unfold Zr; kernel_rfl
theorem Sz103 : Sz Try.prog 103 1 := by unfold Sz; kernel_rfl
theorem Zr103 : Zr Try.prog 103 (.nilFunc) := by unfold Zr; kernel_rfl
theorem Sz104 : Sz Try.prog 104 1 := by unfold Sz; kernel_rfl
theorem Zr104 : Zr Try.prog 104 (.nilFunc) := by unfold Zr; kernel_rfl
theorem Sz105 : Sz Try.prog 105 1 := by unfold Sz; kernel_rfl
theorem Zr105 : Zr Try.prog 105 (.nilFunc) := by unfold Zr; kernel_rfl
theorem Sz106 : Sz Try.prog 106 1 := by unfold Sz; kernel_rfl
theorem Zr106 : Zr Try.prog 106 (.nilFunc) := by unfold Zr; kernel_rfl
theorem Sz107 : Sz Try.prog 107 1 := by unfold Sz; kernel_rfl
theorem Zr107 : Zr Try.prog 107 (.nilFunc) := by unfold Zr; kernel_rfl
theorem Sz108 : Sz Try.prog 108 1 := by unfold Sz; kernel_rfl
theorem Zr108 : Zr Try.prog 108 (.nilFunc) := by unfold Zr; kernel_rfl
theorem Sz109 : Sz Try.prog 109 1 := by unfold Sz; kernel_rfl
theorem Zr109 : Zr Try.prog 109 (.nilFunc) := by unfold Zr; kernel_rfl
theorem Sz110 : Sz Try.prog 110 1 := by unfold Sz; kernel_rfl
theorem Zr110 : Zr Try.prog 110 (.nilFunc) := by unfold Zr; kernel_rfl
theorem Sz111 : Sz Try.prog 111 1 := by unfold Sz; kernel_rfl
theorem Zr111 : Zr Try.prog 111 (.nilFunc) := by unfold Zr; kernel_rfl
theorem Sz112 : Sz Try.prog 112 1 := by unfold Sz; kernel_rfl
theorem Zr112 : Zr Try.prog 112 (.nilFunc) := by unfold Zr; kernel_rfl
theorem Sz113 : Sz Try.prog 113 1 := by unfold Sz; kernel_rfl
theorem Zr113 : Zr Try.prog 113 (.nilFunc) := by unfold Zr; kernel_rfl
theorem Sz114 : Sz Try.prog 114 1 := by unfold Sz; kernel_rfl
theorem Zr114 : Zr Try.prog 114 (.nilFunc) := by unfold Zr; kernel_rfl
theorem Sz115 : Sz Try.prog 115 1 := by unfold Sz; kernel_rfl
theorem Zr115 : Zr Try.prog 115 (.nilFunc) := by unfold Zr; kernel_rfl
theorem Sz116 : Sz Try.prog 116 1 := by unfold Sz; kernel_rfl
theorem Zr116 : Zr Try.prog 116 (.nilFunc) := by unfold Zr; kernel_rfl
theorem Sz117 : Sz Try.prog 117 1 := by unfold Sz; kernel_rfl
theorem Zr117 : Zr Try.prog 117 (.nilFunc) := by unfold Zr; kernel_rfl
theorem Sz118 : Sz Try.prog 118 1 := by unfold Sz; kernel_rfl
theorem Zr118 : Zr Try.prog 118 (.nilFunc) := by unfold Zr; kernel_rfl
theorem Sz119 : Sz Try.prog 119 1 := by unfold Sz; kernel_rfl
theorem Zr119 : Zr Try.prog 119 (.nilFunc) := by unfold Zr; kernel_rfl
theorem Sz120 : Sz Try.prog 120 1 := by unfold Sz; kernel_rfl
theorem Zr120 : Zr Try.prog 120 (.nilFunc) := by unfold Zr; kernel_rfl
theorem Sz121 : Sz Try.prog 121 1 := by unfold Sz; kernel_rfl
theorem Zr121 : Zr Try.prog 121 (.nilFunc) := by unfold Zr; kernel_rfl
theorem Sz122 : Sz Try.prog 122 1 := by unfold Sz; kernel_rfl
theorem Zr122 : Zr Try.prog 122 (.nilFunc) := by unfold Zr; kernel_rfl
theorem Sz123 : Sz Try.prog 123 1 := by unfold Sz; kernel_rfl
theorem Zr123 : Zr Try.prog 123 (.nilFunc) := by unfold Zr; kernel_rfl
theorem Sz124 : Sz Try.prog 124 1 := by unfold Sz; kernel_rfl
theorem Zr124 : Zr Try.prog 124 (.pointer none) := by unfold Zr; kernel_rfl
theorem Sz125 : Sz Try.prog 125 1 := by unfold Sz; kernel_rfl
theorem Zr125 : Zr Try.prog 125 (.nilFunc) := by unfold Zr; kernel_rfl
theorem Sz126 : Sz Try.prog 126 1 := by unfold Sz; kernel_rfl
theorem Zr126 : Zr Try.prog 126 (.pointer none) := by unfold Zr; kernel_rfl
theorem Sz127 : Sz Try.prog 127 1 := by unfold Sz; kernel_rfl
theorem Zr127 : Zr Try.prog 127 (.nilFunc) := by unfold Zr; kernel_rfl
theorem Sz128 : Sz Try.prog 128 1 := by unfold Sz; kernel_rfl
theorem Zr128 : Zr Try.prog 128 (.nilFunc) := by unfold Zr; kernel_rfl
theorem Sz129 : Sz Try.prog 129 1 := by unfold Sz; kernel_rfl
theorem Zr129 : Zr Try.prog 129 (.pointer none) := by unfold Zr; kernel_rfl
theorem Sz130 : Sz Try.prog 130 1 := by unfold Sz; kernel_rfl
theorem Zr130 : Zr Try.prog 130 (.nilFunc) := by unfold Zr; kernel_rfl
theorem Sz131 : Sz Try.prog 131 1 := by unfold Sz; kernel_rfl
theorem Zr131 : Zr Try.prog 131 (.nilFunc) := by unfold Zr; kernel_rfl
theorem Sz132 : Sz Try.prog 132 1 := by unfold Sz; kernel_rfl
theorem Zr132 : Zr Try.prog 132 (.pointer none) := by unfold Zr; kernel_rfl
theorem Sz133 : Sz Try.prog 133 1 := by unfold Sz; kernel_rfl
theorem Zr133 : Zr Try.prog 133 (.nilFunc) := by unfold Zr; kernel_rfl
theorem Sz134 : Sz Try.prog 134 1 := by unfold Sz; kernel_rfl
theorem Zr134 : Zr Try.prog 134 (.nilFunc) := by unfold Zr; kernel_rfl
theorem Sz135 : Sz Try.prog 135 1 := by unfold Sz; kernel_rfl
theorem Zr135 : Zr Try.prog 135 (.nilFunc) := by unfold Zr; kernel_rfl
theorem Sz136 : Sz Try.prog 136 4 := by unfold Sz; kernel_rfl
theorem Zr136 : Zr Try.prog 136 (agg ([.pointer none] ++ [.slice none 0 0] ++ [i64 0] ++ [i64 0])) := by unfold Zr; kernel_rfl
theorem Sz137 : Sz Try.prog 137 4 := by unfold Sz; kernel_rfl
theorem Zr137 : Zr Try.prog 137 (agg ([.pointer none] ++ [.slice none 0 0] ++ [i64 0] ++ [i64 0])) := by unfold Zr; kernel_rfl
theorem Sz138 : Sz Try.prog 138 1 := by unfold Sz; kernel_rfl
theorem Zr138 : Zr Try.prog 138 (.slice none 0 0) := by unfold Zr; kernel_rfl
theorem Sz139 : Sz Try.prog 139 1 := by unfold Sz; kernel_rfl
theorem Zr139 : Zr Try.prog 139 (.pointer none) := by unfold Zr; kernel_rfl
theorem Sz140 : Sz Try.prog 140 1 := by unfold Sz; kernel_rfl
theorem Zr140 : Zr Try.prog 140 (.nilFunc) := by unfold Zr; kernel_rfl
theorem Sz141 : Sz Try.prog 141 1 := by unfold Sz; kernel_rfl
theorem Zr141 : Zr Try.prog 141 (.nilFunc) := by unfold Zr; kernel_rfl
theorem Sz142 : Sz Try.prog 142 1 := by unfold Sz; kernel_rfl
theorem Zr142 : Zr Try.prog 142 (.nilFunc) := by unfold Zr; kernel_rfl
theorem Sz143 : Sz Try.prog 143 1 := by unfold Sz; kernel_rfl
theorem Zr143 : Zr Try.prog 143 (.nilFunc) := by unfold Zr; kernel_rfl
theorem Sz144 : Sz Try.prog 144 1 := by unfold Sz; kernel_rfl
theorem Zr144 : Zr Try.prog 144 (.nilFunc) := by unfold Zr; kernel_rfl
theorem Sz145 : Sz Try.prog 145 1 := by unfold Sz; kernel_rfl
theorem Zr145 : Zr Try.prog 145 (.nilFunc) := by unfold Zr; kernel_rfl
theorem Sz146 : Sz Try.prog 146 1 := by unfold Sz; kernel_rfl
theorem Zr146 : Zr Try.prog 146 (.nilFunc) := by unfold Zr; kernel_rfl
theorem Sz147 : Sz Try.prog 147 1 := by unfold Sz; kernel_rfl
theorem Zr147 : Zr Try.prog 147 (.nilFunc) := by unfold Zr; kernel_rfl
theorem Sz148 : Sz Try.prog 148 1 := by unfold Sz; kernel_rfl
theorem Zr148 : Zr Try.prog 148 (.nilFunc) := by unfold Zr; kernel_rfl
theorem Sz149 : Sz Try.prog 149 8 := by unfold Sz; kernel_rfl
theorem Zr149 : Zr Try.prog 149 (agg (wordsV (List.replicate 8 0))) := by unfold Zr; kernel_rfl
theorem Sz150 : Sz Try.prog 150 1 := by unfold Sz; kernel_rfl
theorem Zr150 : Zr Try.prog 150 (.nilFunc) := by unfold Zr; kernel_rfl
theorem Sz151 : Sz Try.prog 151 1 := by unfold Sz; kernel_rfl
theorem Zr151 : Zr Try.prog 151 (.nilFunc) := by unfold Zr; kernel_rfl
theorem Sz152 : Sz Try.prog 152 1 := by unfold Sz; kernel_rfl
theorem Zr152 : Zr Try.prog 152 (.nilFunc) := by unfold Zr; kernel_rfl
theorem Sz153 : Sz Try.prog 153 1 := by unfold Sz; kernel_rfl
theorem Zr153 : Zr Try.prog 153 (.nilFunc) := by unfold Zr; kernel_rfl
theorem Sz154 : Sz Try.prog 154 1 := by unfold Sz; kernel_rfl
theorem Zr154 : Zr Try.prog 154 (.nilFunc) := by unfold Zr; kernel_rfl
theorem Sz155 : Sz Try.prog 155 1 := by unfold Sz; kernel_rfl
theorem Zr155 : Zr Try.prog 155 (.nilFunc) := by unfold Zr; kernel_rfl
theorem Sz156 : Sz Try.prog 156 1 := by unfold Sz; kernel_rfl
theorem Zr156 : Zr Try.prog 156 (.nilFunc) := by unfold Zr; kernel_rfl
theorem Sz157 : Sz Try.prog 157 1 := by unfold Sz; kernel_rfl
theorem Zr157 : Zr Try.prog 157 (.nilFunc) := by unfold Zr; kernel_rfl
theorem Sz158 : Sz Try.prog 158 1 := by unfold Sz; kernel_rfl
theorem Zr158 : Zr Try.prog 158 (.nilFunc) := by unfold Zr; kernel_rfl
theorem Sz159 : Sz Try.prog 159 1 := by unfold Sz; kernel_rfl
theorem Zr159 : Zr Try.prog 159 (.nilFunc) := by unfold Zr; kernel_rfl
theorem Sz160 : Sz Try.prog 160 1 := by unfold Sz; kernel_rfl
theorem Zr160 : Zr Try.prog 160 (.nilFunc) := by unfold Zr; kernel_rfl
theorem Sz161 : Sz Try.prog 161 1 := by unfold Sz; kernel_rfl
theorem Zr161 : Zr Try.prog 161 (.nilFunc) := by unfold Zr; kernel_rfl
theorem Sz162 : Sz Try.prog 162 1 := by unfold Sz; kernel_rfl
theorem Zr162 : Zr Try.prog 162 (.nilFunc) := by unfold Zr; kernel_rfl
theorem Sz163 : Sz Try.prog 163 1 := by unfold Sz; kernel_rfl
theorem Zr163 : Zr Try.prog 163 (.nilFunc) := by unfold Zr; kernel_rfl
theorem Sz164 : Sz Try.prog 164 1 := by unfold Sz; kernel_rfl
theorem Zr164 : Zr Try.prog 164 (.nilFunc) := by unfold Zr; kernel_rfl
theorem Sz165 : Sz Try.prog 165 1 := by unfold Sz; kernel_rfl
theorem Zr165 : Zr Try.prog 165 (.nilFunc) := by unfold Zr; kernel_rfl
theorem Sz166 : Sz Try.prog 166 7 := by unfold Sz; kernel_rfl
theorem Zr166 : Zr Try.prog 166 (agg (intsV (List.replicate 7 0))) := by unfold Zr; kernel_rfl
theorem Sz167 : Sz Try.prog 167 7 := by unfold Sz; kernel_rfl
theorem Zr167 : Zr Try.prog 167 (agg (List.replicate 7 [.bool false]).flatten) := by unfold Zr; kernel_rfl
theorem Sz168 : Sz Try.prog 168 1 := by unfold Sz; kernel_rfl
theorem Zr168 : Zr Try.prog 168 (.nilFunc) := by unfold Zr; kernel_rfl
theorem Sz169 : Sz Try.prog 169 1 := by unfold Sz; kernel_rfl
theorem Zr169 : Zr Try.prog 169 (.nilFunc) := by unfold Zr; kernel_rfl
theorem Sz170 : Sz Try.prog 170 1 := by unfold Sz; kernel_rfl
theorem Zr170 : Zr Try.prog 170 (.nilFunc) := by unfold Zr; kernel_rfl
theorem Sz171 : Sz Try.prog 171 1 := by unfold Sz; kernel_rfl
theorem Zr171 : Zr Try.prog 171 (.nilFunc) := by unfold Zr; kernel_rfl
theorem Sz172 : Sz Try.prog 172 1 := by unfold Sz; kernel_rfl
theorem Zr172 : Zr Try.prog 172 (.nilFunc) := by unfold Zr; kernel_rfl
theorem Sz173 : Sz Try.prog 173 1 := by unfold Sz; kernel_rfl
theorem Zr173 : Zr Try.prog 173 (.nilFunc) := by unfold Zr; kernel_rfl
theorem Sz174 : Sz Try.prog 174 1 := by unfold Sz; kernel_rfl
theorem Zr174 : Zr Try.prog 174 (.nilFunc) := by unfold Zr; kernel_rfl
theorem Sz175 : Sz Try.prog 175 1 := by unfold Sz; kernel_rfl
theorem Zr175 : Zr Try.prog 175 (.nilFunc) := by unfold Zr; kernel_rfl
theorem Sz176 : Sz Try.prog 176 1 := by unfold Sz; kernel_rfl
theorem Zr176 : Zr Try.prog 176 (.nilFunc) := by unfold Zr; kernel_rfl
theorem Sz177 : Sz Try.prog 177 1 := by unfold Sz; kernel_rfl
theorem Zr177 : Zr Try.prog 177 (.nilFunc) := by unfold Zr; kernel_rfl
theorem Sz178 : Sz Try.prog 178 1 := by unfold Sz; kernel_rfl
theorem Zr178 : Zr Try.prog 178 (.nilFunc) := by unfold Zr; kernel_rfl
theorem Sz179 : Sz Try.prog 179 1 := by unfold Sz; kernel_rfl
theorem Zr179 : Zr Try.prog 179 (.nilFunc) := by unfold Zr; kernel_rfl
theorem Sz180 : Sz Try.prog 180 1 := by unfold Sz; kernel_rfl
theorem Zr180 : Zr Try.prog 180 (.nilFunc) := by unfold Zr; kernel_rfl
theorem Sz181 : Sz Try.prog 181 1 := by unfold Sz; kernel_rfl
theorem Zr181 : Zr Try.prog 181 (.nilFunc) := by unfold Zr; kernel_rfl
theorem Sz182 : Sz Try.prog 182 1 := by unfold Sz; kernel_rfl
theorem Zr182 : Zr Try.prog 182 (.nilFunc) := by unfold Zr; kernel_rfl
theorem Sz183 : Sz Try.prog 183 1 := by unfold Sz; kernel_rfl
theorem Zr183 : Zr Try.prog 183 (.nilFunc) := by unfold Zr; kernel_rfl
theorem Sz184 : Sz Try.prog 184 1 := by unfold Sz; kernel_rfl
theorem Zr184 : Zr Try.prog 184 (.slice none 0 0) := by unfold Zr; kernel_rfl
theorem Sz185 : Sz Try.prog 185 1 := by unfold Sz; kernel_rfl
theorem Zr185 : Zr Try.prog 185 (.nilFunc) := by unfold Zr; kernel_rfl
theorem Sz186 : Sz Try.prog 186 1 := by unfold Sz; kernel_rfl
theorem Zr186 : Zr Try.prog 186 (.nilFunc) := by unfold Zr; kernel_rfl
theorem Sz190 : Sz Try.prog 190 1 := by unfold Sz; kernel_rfl
theorem Zr190 : Zr Try.prog 190 (.nilFunc) := by unfold Zr; kernel_rfl
theorem Sz191 : Sz Try.prog 191 1 := by unfold Sz; kernel_rfl
theorem Zr191 : Zr Try.prog 191 (.nilFunc) := by unfold Zr; kernel_rfl
theorem Sz192 : Sz Try.prog 192 1 := by unfold Sz; kernel_rfl
theorem Zr192 : Zr Try.prog 192 (.nilFunc) := by unfold Zr; kernel_rfl
theorem Sz195 : Sz Try.prog 195 1 := by unfold Sz; kernel_rfl
theorem Zr195 : Zr Try.prog 195 (.nilFunc) := by unfold Zr; kernel_rfl
theorem Sz196 : Sz Try.prog 196 1 := by unfold Sz; kernel_rfl
theorem Zr196 : Zr Try.prog 196 (.nilFunc) := by unfold Zr; kernel_rfl
theorem Sz197 : Sz Try.prog 197 1 := by unfold Sz; kernel_rfl
theorem Zr197 : Zr Try.prog 197 (.nilFunc) := by unfold Zr; kernel_rfl
theorem Sz198 : Sz Try.prog 198 1 := by unfold Sz; kernel_rfl
theorem Zr198 : Zr Try.prog 198 (u64 0) := by unfold Zr; kernel_rfl
theorem Sz199 : Sz Try.prog 199 1 := by unfold Sz; kernel_rfl
theorem Zr199 : Zr Try.prog 199 (.nilFunc) := by unfold Zr; kernel_rfl
theorem Sz200 : Sz Try.prog 200 1 := by unfold Sz; kernel_rfl
theorem Zr200 : Zr Try.prog 200 (.nilFunc) := by unfold Zr; kernel_rfl
theorem Sz201 : Sz Try.prog 201 1 := by unfold Sz; kernel_rfl
theorem Zr201 : Zr Try.prog 201 (.nilFunc) := by unfold Zr; kernel_rfl
theorem Sz202 : Sz Try.prog 202 1 := by unfold Sz; kernel_rfl
theorem Zr202 : Zr Try.prog 202 (.nilFunc) := by unfold Zr; kernel_rfl
theorem Sz203 : Sz Try.prog 203 1 := by unfold Sz; kernel_rfl
theorem Zr203 : Zr Try.prog 203 (.nilFunc) := by unfold Zr; kernel_rfl
theorem Sz204 : Sz Try.prog 204 1 := by unfold Sz; kernel_rfl
theorem Zr204 : Zr Try.prog 204 (.nilFunc) := by unfold Zr; kernel_rfl
theorem Sz205 : Sz Try.prog 205 128 := by unfold Sz; kernel_rfl
theorem Zr205 : Zr Try.prog 205 (agg (bytesV (List.replicate 128 0))) := by unfold Zr; kernel_rfl
theorem Sz206 : Sz Try.prog 206 1 := by unfold Sz; kernel_rfl
theorem Zr206 : Zr Try.prog 206 (.nilFunc) := by unfold Zr; kernel_rfl
theorem Sz207 : Sz Try.prog 207 1 := by unfold Sz; kernel_rfl
theorem Zr207 : Zr Try.prog 207 (.nilFunc) := by unfold Zr; kernel_rfl
theorem Sz208 : Sz Try.prog 208 1 := by unfold Sz; kernel_rfl
theorem Zr208 : Zr Try.prog 208 (.nilFunc) := by unfold Zr; kernel_rfl
theorem Sz209 : Sz Try.prog 209 1 := by unfold Sz; kernel_rfl
theorem Zr209 : Zr Try.prog 209 (.nilFunc) := by unfold Zr; kernel_rfl
theorem Sz210 : Sz Try.prog 210 1 := by unfold Sz; kernel_rfl
theorem Zr210 : Zr Try.prog 210 (.nilFunc) := by unfold Zr; kernel_rfl
theorem Sz211 : Sz Try.prog 211 1 := by unfold Sz; kernel_rfl
theorem Zr211 : Zr Try.prog 211 (.nilFunc) := by unfold Zr; kernel_rfl
theorem Sz212 : Sz Try.prog 212 1 := by unfold Sz; kernel_rfl
theorem Zr212 : Zr Try.prog 212 (.nilFunc) := by unfold Zr; kernel_rfl
theorem Sz213 : Sz Try.prog 213 1 := by unfold Sz; kernel_rfl
theorem Zr213 : Zr Try.prog 213 (.nilFunc) := by unfold Zr; kernel_rfl
theorem Sz216 : Sz Try.prog 216 1 := by unfold Sz; kernel_rfl
theorem Zr216 : Zr Try.prog 216 (.nilFunc) := by unfold Zr; kernel_rfl
theorem Sz217 : Sz Try.prog 217 2 := by unfold Sz; kernel_rfl
theorem Zr217 : Zr Try.prog 217 (agg (wordsV (List.replicate 2 0))) := by unfold Zr; kernel_rfl
theorem Sz218 : Sz Try.prog 218 80 := by unfold Sz; kernel_rfl
theorem Zr218 : Zr Try.prog 218 (agg (wordsV (List.replicate 80 0))) := by unfold Zr; kernel_rfl
theorem Sz219 : Sz Try.prog 219 1 := by unfold Sz; kernel_rfl
theorem Zr219 : Zr Try.prog 219 (.nilFunc) := by unfold Zr; kernel_rfl
theorem Sz220 : Sz Try.prog 220 1 := by unfold Sz; kernel_rfl
theorem Zr220 : Zr Try.prog 220 (.nilFunc) := by unfold Zr; kernel_rfl
theorem Sz221 : Sz Try.prog 221 1 := by unfold Sz; kernel_rfl
theorem Zr221 : Zr Try.prog 221 (.nilFunc) := by unfold Zr; kernel_rfl
theorem Sz222 : Sz Try.prog 222 1 := by unfold Sz; kernel_rfl
theorem Zr222 : Zr Try.prog 222 (.nilFunc) := by unfold Zr; kernel_rfl
theorem Sz223 : Sz Try.prog 223 4 := by unfold Sz; kernel_rfl
theorem Zr223 : Zr Try.prog 223 (agg ([.pointer none] ++ [.pointer none] ++ [.pointer none] ++ [.string .empty])) := by unfold Zr; kernel_rfl
theorem Sz224 : Sz Try.prog 224 4 := by unfold Sz; kernel_rfl
theorem Zr224 : Zr Try.prog 224 (agg ([.pointer none] ++ [.pointer none] ++ [.pointer none] ++ [.string .empty])) := by unfold Zr; kernel_rfl
theorem Sz225 : Sz Try.prog 225 0 := by unfold Sz; kernel_rfl
theorem Zr225 : Zr Try.prog 225 (agg (List.replicate 0 [.pointer none]).flatten) := by unfold Zr; kernel_rfl
theorem Sz226 : Sz Try.prog 226 0 := by unfold Sz; kernel_rfl
theorem Zr226 : Zr Try.prog 226 (agg ((List.replicate 0 [.pointer none]).flatten)) := by unfold Zr; kernel_rfl
theorem Sz227 : Sz Try.prog 227 0 := by unfold Sz; kernel_rfl
theorem Zr227 : Zr Try.prog 227 (agg ((List.replicate 0 [.pointer none]).flatten)) := by unfold Zr; kernel_rfl
theorem Sz228 : Sz Try.prog 228 1 := by unfold Sz; kernel_rfl
theorem Zr228 : Zr Try.prog 228 (u32 0) := by unfold Zr; kernel_rfl
theorem Sz229 : Sz Try.prog 229 1 := by unfold Sz; kernel_rfl
theorem Zr229 : Zr Try.prog 229 (u8 0) := by unfold Zr; kernel_rfl
theorem Sz230 : Sz Try.prog 230 1 := by unfold Sz; kernel_rfl
theorem Zr230 : Zr Try.prog 230 (u8 0) := by unfold Zr; kernel_rfl
theorem Sz231 : Sz Try.prog 231 1 := by unfold Sz; kernel_rfl
theorem Zr231 : Zr Try.prog 231 (.nilFunc) := by unfold Zr; kernel_rfl
theorem Sz232 : Sz Try.prog 232 1 := by unfold Sz; kernel_rfl
theorem Zr232 : Zr Try.prog 232 (.pointer none) := by unfold Zr; kernel_rfl
theorem Sz233 : Sz Try.prog 233 1 := by unfold Sz; kernel_rfl
theorem Zr233 : Zr Try.prog 233 (.int .i32 0) := by unfold Zr; kernel_rfl
theorem Sz234 : Sz Try.prog 234 1 := by unfold Sz; kernel_rfl
theorem Zr234 : Zr Try.prog 234 (.int .i32 0) := by unfold Zr; kernel_rfl
theorem Sz235 : Sz Try.prog 235 11 := by unfold Sz; kernel_rfl
theorem Zr235 : Zr Try.prog 235 (agg ([u64 0] ++ [u64 0] ++ [u32 0] ++ [u8 0] ++ [u8 0] ++ [u8 0] ++ [u8 0] ++ [.nilFunc] ++ [.pointer none] ++ [.int .i32 0] ++ [.int .i32 0])) := by unfold Zr; kernel_rfl
theorem Sz236 : Sz Try.prog 236 11 := by unfold Sz; kernel_rfl
theorem Zr236 : Zr Try.prog 236 (agg ([u64 0] ++ [u64 0] ++ [u32 0] ++ [u8 0] ++ [u8 0] ++ [u8 0] ++ [u8 0] ++ [.nilFunc] ++ [.pointer none] ++ [.int .i32 0] ++ [.int .i32 0])) := by unfold Zr; kernel_rfl
theorem Sz237 : Sz Try.prog 237 1 := by unfold Sz; kernel_rfl
theorem Body2 : Body Try.prog 2 := fun _ _ => (by kernel_rfl)
theorem Body3 : Body Try.prog 3 := fun _ _ => (by kernel_rfl)
theorem Body4 : Body Try.prog 4 := fun _ _ => (by kernel_rfl)
theorem Body5 : Body Try.prog 5 := fun _ _ => (by kernel_rfl)
theorem Body6 : Body Try.prog 6 := fun _ _ => (by kernel_rfl)
theorem Body7 : Body Try.prog 7 := fun _ _ => (by kernel_rfl)
theorem Body8 : Body Try.prog 8 := fun _ _ => (by kernel_rfl)
theorem Body9 : Body Try.prog 9 := fun _ _ => (by kernel_rfl)
theorem Body10 : Body Try.prog 10 := fun _ _ => (by kernel_rfl)
theorem Body11 : Body Try.prog 11 := fun _ _ => (by kernel_rfl)
theorem Body12 : Body Try.prog 12 := fun _ _ => (by kernel_rfl)
theorem Body13 : Body Try.prog 13 := fun _ _ => (by kernel_rfl)
theorem Body14 : Body Try.prog 14 := fun _ _ => (by kernel_rfl)
theorem Body15 : Body Try.prog 15 := fun _ _ => (by kernel_rfl)
theorem Body16 : Body Try.prog 16 := fun _ _ => (by kernel_rfl)
theorem Body17 : Body Try.prog 17 := fun _ _ => (by kernel_rfl)
theorem Body18 : Body Try.prog 18 := fun _ _ => (by kernel_rfl)
theorem Body19 : Body Try.prog 19 := fun _ _ => (by kernel_rfl)
theorem Body20 : Body Try.prog 20 := fun _ _ => (by kernel_rfl)
theorem Body21 : Body Try.prog 21 := fun _ _ => (by kernel_rfl)
theorem Body22 : Body Try.prog 22 := fun _ _ => (by kernel_rfl)
theorem Body23 : Body Try.prog 23 := fun _ _ => (by kernel_rfl)
theorem Body24 : Body Try.prog 24 := fun _ _ => (by kernel_rfl)
theorem Body25 : Body Try.prog 25 := fun _ _ => (by kernel_rfl)
theorem Body26 : Body Try.prog 26 := fun _ _ => (by kernel_rfl)
theorem Body27 : Body Try.prog 27 := fun _ _ => (by kernel_rfl)
theorem Body28 : Body Try.prog 28 := fun _ _ => (by kernel_rfl)
theorem Body29 : Body Try.prog 29 := fun _ _ => (by kernel_rfl)
theorem Body30 : Body Try.prog 30 := fun _ _ => (by kernel_rfl)
theorem Body31 : Body Try.prog 31 := fun _ _ => (by kernel_rfl)
theorem Body32 : Body Try.prog 32 := fun _ _ => (by kernel_rfl)
theorem Body33 : Body Try.prog 33 := fun _ _ => (by kernel_rfl)
theorem Body34 : Body Try.prog 34 := fun _ _ => (by kernel_rfl)
theorem Body35 : Body Try.prog 35 := fun _ _ => (by kernel_rfl)
theorem Body36 : Body Try.prog 36 := fun _ _ => (by kernel_rfl)
theorem Body37 : Body Try.prog 37 := fun _ _ => (by kernel_rfl)
theorem Body38 : Body Try.prog 38 := fun _ _ => (by kernel_rfl)
theorem Body39 : Body Try.prog 39 := fun _ _ => (by kernel_rfl)
theorem Body40 : Body Try.prog 40 := fun _ _ => (by kernel_rfl)
theorem Body41 : Body Try.prog 41 := fun _ _ => (by kernel_rfl)
theorem Body42 : Body Try.prog 42 := fun _ _ => (by kernel_rfl)
theorem Body43 : Body Try.prog 43 := fun _ _ => (by kernel_rfl)
theorem Body44 : Body Try.prog 44 := fun _ _ => (by kernel_rfl)
theorem Body45 : Body Try.prog 45 := fun _ _ => (by kernel_rfl)
theorem Body46 : Body Try.prog 46 := fun _ _ => (by kernel_rfl)
theorem Body47 : Body Try.prog 47 := fun _ _ => (by kernel_rfl)
theorem Body48 : Body Try.prog 48 := fun _ _ => (by kernel_rfl)
theorem Body49 : Body Try.prog 49 := fun _ _ => (by kernel_rfl)
theorem Body50 : Body Try.prog 50 := fun _ _ => (by kernel_rfl)
theorem Body51 : Body Try.prog 51 := fun _ _ => (by kernel_rfl)
theorem Body52 : Body Try.prog 52 := fun _ _ => (by kernel_rfl)
theorem Body53 : Body Try.prog 53 := fun _ _ => (by kernel_rfl)
theorem Body54 : Body Try.prog 54 := fun _ _ => (by kernel_rfl)
theorem Body55 : Body Try.prog 55 := fun _ _ => (by kernel_rfl)
theorem Body56 : Body Try.prog 56 := fun _ _ => (by kernel_rfl)
theorem Body57 : Body Try.prog 57 := fun _ _ => (by kernel_rfl)
theorem Body58 : Body Try.prog 58 := fun _ _ => (by kernel_rfl)
theorem Body59 : Body Try.prog 59 := fun _ _ => (by kernel_rfl)
theorem Body60 : Body Try.prog 60 := fun _ _ => (by kernel_rfl)
theorem Body61 : Body Try.prog 61 := fun _ _ => (by kernel_rfl)
theorem Body62 : Body Try.prog 62 := fun _ _ => (by kernel_rfl)
theorem Body63 : Body Try.prog 63 := fun _ _ => (by kernel_rfl)
theorem Body64 : Body Try.prog 64 := fun _ _ => (by kernel_rfl)
theorem Body65 : Body Try.prog 65 := fun _ _ => (by kernel_rfl)
theorem Body66 : Body Try.prog 66 := fun _ _ => (by kernel_rfl)
theorem Body67 : Body Try.prog 67 := fun _ _ => (by kernel_rfl)
theorem Body68 : Body Try.prog 68 := fun _ _ => (by kernel_rfl)
theorem Body69 : Body Try.prog 69 := fun _ _ => (by kernel_rfl)
theorem Body70 : Body Try.prog 70 := fun _ _ => (by kernel_rfl)
theorem Body71 : Body Try.prog 71 := fun _ _ => (by kernel_rfl)
theorem Body72 : Body Try.prog 72 := fun _ _ => (by kernel_rfl)
theorem Body73 : Body Try.prog 73 := fun _ _ => (by kernel_rfl)
theorem Body74 : Body Try.prog 74 := fun _ _ => (by kernel_rfl)
theorem Body75 : Body Try.prog 75 := fun _ _ => (by kernel_rfl)
theorem Body76 : Body Try.prog 76 := fun _ _ => (by kernel_rfl)
theorem Body77 : Body Try.prog 77 := fun _ _ => (by kernel_rfl)
theorem Body78 : Body Try.prog 78 := fun _ _ => (by kernel_rfl)
theorem Body79 : Body Try.prog 79 := fun _ _ => (by kernel_rfl)
theorem Body80 : Body Try.prog 80 := fun _ _ => (by kernel_rfl)
theorem Body81 : Body Try.prog 81 := fun _ _ => (by kernel_rfl)
theorem Body82 : Body Try.prog 82 := fun _ _ => (by kernel_rfl)
theorem Body83 : Body Try.prog 83 := fun _ _ => (by kernel_rfl)
theorem Body84 : Body Try.prog 84 := fun _ _ => (by kernel_rfl)
theorem Body85 : Body Try.prog 85 := fun _ _ => (by kernel_rfl)
theorem Body86 : Body Try.prog 86 := fun _ _ => (by kernel_rfl)
theorem Body87 : Body Try.prog 87 := fun _ _ => (by kernel_rfl)
theorem Body88 : Body Try.prog 88 := fun _ _ => (by kernel_rfl)
theorem Body89 : Body Try.prog 89 := fun _ _ => (by kernel_rfl)
theorem Body90 : Body Try.prog 90 := fun _ _ => (by kernel_rfl)
theorem Body91 : Body Try.prog 91 := fun _ _ => (by kernel_rfl)
theorem Body92 : Body Try.prog 92 := fun _ _ => (by kernel_rfl)
theorem Body93 : Body Try.prog 93 := fun _ _ => (by kernel_rfl)
theorem Body94 : Body Try.prog 94 := fun _ _ => (by kernel_rfl)
theorem Body95 : Body Try.prog 95 := fun _ _ => (by kernel_rfl)
theorem Body96 : Body Try.prog 96 := fun _ _ => (by kernel_rfl)
theorem Body97 : Body Try.prog 97 := fun _ _ => (by kernel_rfl)
theorem Body98 : Body Try.prog 98 := fun _ _ => (by kernel_rfl)
theorem Body99 : Body Try.prog 99 := fun _ _ => (by kernel_rfl)
theorem Body100 : Body Try.prog 100 := fun _ _ => (by kernel_rfl)
theorem Body101 : Body Try.prog 101 := fun _ _ => (by kernel_rfl)
theorem Body102 : Body Try.prog 102 := fun _ _ => (by kernel_rfl)
theorem Body103 : Body Try.prog 103 := fun _ _ => (by kernel_rfl)
theorem Body104 : Body Try.prog 104 := fun _ _ => (by kernel_rfl)
theorem Body105 : Body Try.prog 105 := fun _ _ => (by kernel_rfl)
theorem Body106 : Body Try.prog 106 := fun _ _ => (by kernel_rfl)
theorem Body107 : Body Try.prog 107 := fun _ _ => (by kernel_rfl)
theorem Body108 : Body Try.prog 108 := fun _ _ => (by kernel_rfl)
theorem Body109 : Body Try.prog 109 := fun _ _ => (by kernel_rfl)
theorem Body110 : Body Try.prog 110 := fun _ _ => (by kernel_rfl)
theorem Body111 : Body Try.prog 111 := fun _ _ => (by kernel_rfl)
theorem Body112 : Body Try.prog 112 := fun _ _ => (by kernel_rfl)
theorem Body113 : Body Try.prog 113 := fun _ _ => (by kernel_rfl)
theorem Body114 : Body Try.prog 114 := fun _ _ => (by kernel_rfl)
theorem Body115 : Body Try.prog 115 := fun _ _ => (by kernel_rfl)
theorem Body116 : Body Try.prog 116 := fun _ _ => (by kernel_rfl)
theorem Body117 : Body Try.prog 117 := fun _ _ => (by kernel_rfl)
theorem Body118 : Body Try.prog 118 := fun _ _ => (by kernel_rfl)
theorem Body119 : Body Try.prog 119 := fun _ _ => (by kernel_rfl)
theorem Body120 : Body Try.prog 120 := fun _ _ => (by kernel_rfl)
theorem Body121 : Body Try.prog 121 := fun _ _ => (by kernel_rfl)
theorem Body122 : Body Try.prog 122 := fun _ _ => (by kernel_rfl)
theorem Body123 : Body Try.prog 123 := fun _ _ => (by kernel_rfl)
theorem Body124 : Body Try.prog 124 := fun _ _ => (by kernel_rfl)
theorem Body125 : Body Try.prog 125 := fun _ _ => (by kernel_rfl)
theorem Body126 : Body Try.prog 126 := fun _ _ => (by kernel_rfl)
theorem Body127 : Body Try.prog 127 := fun _ _ => (by kernel_rfl)
theorem Body128 : Body Try.prog 128 := fun _ _ => (by kernel_rfl)
theorem Body129 : Body Try.prog 129 := fun _ _ => (by kernel_rfl)
theorem Body130 : Body Try.prog 130 := fun _ _ => (by kernel_rfl)
theorem Body131 : Body Try.prog 131 := fun _ _ => (by kernel_rfl)
theorem Body132 : Body Try.prog 132 := fun _ _ => (by kernel_rfl)
theorem Body134 : Body Try.prog 134 := fun _ _ => (by kernel_rfl)
theorem Body135 : Body Try.prog 135 := fun _ _ => (by kernel_rfl)
theorem Body136 : Body Try.prog 136 := fun _ _ => (by kernel_rfl)
theorem Body137 : Body Try.prog 137 := fun _ _ => (by kernel_rfl)
theorem Body138 : Body Try.prog 138 := fun _ _ => (by kernel_rfl)
theorem Body139 : Body Try.prog 139 := fun _ _ => (by kernel_rfl)
theorem Body140 : Body Try.prog 140 := fun _ _ => (by kernel_rfl)
theorem Body141 : Body Try.prog 141 := fun _ _ => (by kernel_rfl)
theorem Body142 : Body Try.prog 142 := fun _ _ => (by kernel_rfl)
theorem Body143 : Body Try.prog 143 := fun _ _ => (by kernel_rfl)
theorem Body144 : Body Try.prog 144 := fun _ _ => (by kernel_rfl)
theorem Body145 : Body Try.prog 145 := fun _ _ => (by kernel_rfl)
theorem Body146 : Body Try.prog 146 := fun _ _ => (by kernel_rfl)
theorem Body147 : Body Try.prog 147 := fun _ _ => (by kernel_rfl)
theorem Body148 : Body Try.prog 148 := fun _ _ => (by kernel_rfl)
theorem Body149 : Body Try.prog 149 := fun _ _ => (by kernel_rfl)
theorem Body150 : Body Try.prog 150 := fun _ _ => (by kernel_rfl)
theorem Body151 : Body Try.prog 151 := fun _ _ => (by kernel_rfl)
theorem Body152 : Body Try.prog 152 := fun _ _ => (by kernel_rfl)
theorem Body153 : Body Try.prog 153 := fun _ _ => (by kernel_rfl)
theorem Body154 : Body Try.prog 154 := fun _ _ => (by kernel_rfl)
theorem Body155 : Body Try.prog 155 := fun _ _ => (by kernel_rfl)
theorem Body156 : Body Try.prog 156 := fun _ _ => (by kernel_rfl)
theorem Body157 : Body Try.prog 157 := fun _ _ => (by kernel_rfl)
theorem Mixed : Try.prog.follows .mixedOrders = true := by kernel_rfl
end Go.Proofs.Ytejjamifnombhaa
