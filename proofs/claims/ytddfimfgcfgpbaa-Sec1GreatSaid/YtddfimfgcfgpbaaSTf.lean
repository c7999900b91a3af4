/-
  Facts about the types of the program.
-/
import Derived.Test.YtddfimfgcfgpbaaSWz
namespace Go.Proofs.Ytddfimfgcfgpbaa
open Sx
open Go.RowKit (Below)
set_option exponentiation.threshold 2000
theorem ag147 : AggT Try.prog 147 5 := by unfold AggT; kernel_rfl
theorem ag151 : AggT Try.prog 151 1 := by unfold AggT; kernel_rfl
theorem ag194 : AggT Try.prog 194 18 := by unfold AggT; kernel_rfl
theorem ag27 : AggT Try.prog 27 7 := by unfold AggT; kernel_rfl
theorem ag32 : AggT Try.prog 32 3 := by unfold AggT; kernel_rfl
theorem ag35 : AggT Try.prog 35 9 := by unfold AggT; kernel_rfl
theorem ag37 : AggT Try.prog 37 9 := by unfold AggT; kernel_rfl
theorem ag45 : AggT Try.prog 45 19 := by unfold AggT; kernel_rfl
theorem ar192 : ArrT Try.prog 192 18 := by unfold ArrT; kernel_rfl
theorem ar206 : ArrT Try.prog 206 19 := by unfold ArrT; kernel_rfl
theorem ar35 : ArrT Try.prog 35 9 := by unfold ArrT; kernel_rfl
theorem cv103 : CvB Try.prog 103 9 5 := ⟨by kernel_rfl, by kernel_rfl, by kernel_rfl⟩
theorem el25 : ElT Try.prog 25 81 (.int .u32 0) 1 4 := ⟨by kernel_rfl, by kernel_rfl⟩
theorem mk103 : MakeT Try.prog 103 5 (.int .u8 ((0 : Nat) : Int)) 1 := by unfold MakeT; kernel_rfl
theorem mk25 : MakeT Try.prog 25 81 (.int .u32 ((0 : Nat) : Int)) 4 := by unfold MakeT; kernel_rfl
theorem on108 : OneT Try.prog 108 := by unfold OneT; kernel_rfl
theorem on149 : OneT Try.prog 149 := by unfold OneT; kernel_rfl
theorem on22 : OneT Try.prog 22 := by unfold OneT; kernel_rfl
theorem on25 : OneT Try.prog 25 := by unfold OneT; kernel_rfl
theorem on3 : OneT Try.prog 3 := by unfold OneT; kernel_rfl
theorem on4 : OneT Try.prog 4 := by unfold OneT; kernel_rfl
theorem on81 : OneT Try.prog 81 := by unfold OneT; kernel_rfl
theorem on9 : OneT Try.prog 9 := by unfold OneT; kernel_rfl
theorem sl103 : SlT Try.prog 103 1 := by unfold SlT; kernel_rfl
theorem sl198 : SlT Try.prog 198 1 := by unfold SlT; kernel_rfl
theorem sl25 : SlT Try.prog 25 1 := by unfold SlT; kernel_rfl
theorem sl97 : SlT Try.prog 97 1 := by unfold SlT; kernel_rfl
theorem str9 : StrT Try.prog 9 := by unfold StrT; kernel_rfl
theorem sz147 : (Try.prog.info? 147).map (·.size) = some 5 := by kernel_rfl
theorem sz151 : (Try.prog.info? 151).map (·.size) = some 1 := by kernel_rfl
theorem sz194 : (Try.prog.info? 194).map (·.size) = some 18 := by kernel_rfl
theorem sz22 : (Try.prog.info? 22).map (·.size) = some 1 := by kernel_rfl
theorem sz25 : (Try.prog.info? 25).map (·.size) = some 1 := by kernel_rfl
theorem sz27 : (Try.prog.info? 27).map (·.size) = some 7 := by kernel_rfl
theorem sz3 : (Try.prog.info? 3).map (·.size) = some 1 := by kernel_rfl
theorem sz32 : (Try.prog.info? 32).map (·.size) = some 3 := by kernel_rfl
theorem sz37 : (Try.prog.info? 37).map (·.size) = some 9 := by kernel_rfl
theorem sz4 : (Try.prog.info? 4).map (·.size) = some 1 := by kernel_rfl
theorem sz45 : (Try.prog.info? 45).map (·.size) = some 19 := by kernel_rfl
theorem sz5 : (Try.prog.info? 5).map (·.size) = some 1 := by kernel_rfl
theorem sz81 : (Try.prog.info? 81).map (·.size) = some 1 := by kernel_rfl
theorem zt147 : ZeroT Try.prog 147 (.agg #[.string ⟨#[]⟩, .string ⟨#[]⟩, .string ⟨#[]⟩, .string ⟨#[]⟩, .string ⟨#[]⟩]) := by unfold ZeroT; kernel_rfl
theorem zt151 : ZeroT Try.prog 151 (.agg #[.pointer none]) := by unfold ZeroT; kernel_rfl
theorem zt194 : ZeroT Try.prog 194 (.agg #[.int .u64 0, .int .u64 0, .int .u64 0, .int .u64 0, .int .u64 0, .int .u64 0, .int .u64 0, .int .u64 0, .int .u64 0, .int .u64 0, .int .u64 0, .int .u64 0, .int .u64 0, .int .u64 0, .int .u64 0, .int .u64 0, .int .u64 0, .int .u64 0]) := by unfold ZeroT; kernel_rfl
theorem zt206 : ZeroT Try.prog 206 (.agg #[.int .u64 0, .int .u64 0, .int .u64 0, .int .u64 0, .int .u64 0, .int .u64 0, .int .u64 0, .int .u64 0, .int .u64 0, .int .u64 0, .int .u64 0, .int .u64 0, .int .u64 0, .int .u64 0, .int .u64 0, .int .u64 0, .int .u64 0, .int .u64 0, .int .u64 0]) := by unfold ZeroT; kernel_rfl
theorem zt27 : ZeroT Try.prog 27 (.agg #[.int .i64 0, .slice none 0 0, .slice none 0 0, .slice none 0 0, .slice none 0 0, .slice none 0 0, .slice none 0 0]) := by unfold ZeroT; kernel_rfl
theorem zt32 : ZeroT Try.prog 32 (.agg #[.slice none 0 0, .slice none 0 0, .bool false]) := by unfold ZeroT; kernel_rfl
theorem zt37 : ZeroT Try.prog 37 (.agg #[.int .u64 0, .int .u64 0, .int .u64 0, .int .u64 0, .int .u64 0, .int .u64 0, .int .u64 0, .int .u64 0, .int .u64 0]) := by unfold ZeroT; kernel_rfl
theorem zt45 : ZeroT Try.prog 45 (.agg #[.int .u64 0, .int .u64 0, .int .u64 0, .int .u64 0, .int .u64 0, .int .u64 0, .int .u64 0, .int .u64 0, .int .u64 0, .int .u64 0, .int .u64 0, .int .u64 0, .int .u64 0, .int .u64 0, .int .u64 0, .int .u64 0, .int .u64 0, .int .u64 0, .bool false]) := by unfold ZeroT; kernel_rfl
end Go.Proofs.Ytddfimfgcfgpbaa
