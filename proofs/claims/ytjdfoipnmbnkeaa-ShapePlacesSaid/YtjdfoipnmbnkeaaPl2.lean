/- ShapePlaces holds: for every input the law returns true, and the input reads as it did. Part 3 of 6. No conditions. -/
import Derived.Test.YtjdfoipnmbnkeaaPl1
import Derived.Test.YtjdfoipnmbnkeaaProg
set_option maxRecDepth 100000
set_option maxHeartbeats 8000000
namespace Go.Proofs.Ytjdfoipnmbnkeaa
noncomputable section
open Go
theorem e87_28 : c87_28 = .cond (.tmp 31) c87_29 c87_32 := by kernel_rfl
theorem e87_26 : c87_26 = .seq c87_27 c87_28 := by kernel_rfl
def c87_33 := sB c87_25
theorem e87_33 : aI c87_33 = some [oo 32 (.move (.tmp 2)) 2,oo 33 (.binOp .mul 2 (.const (.int .i64 10)) (.tmp 32) 2) 2,oo 34 (.move (.tmp 0)) 9,oo 35 (.move (.tmp 4)) 3,oo 36 (.index 9 (.tmp 34) (.tmp 35)) 5,oo 37 (.binOp .sub 5 (.tmp 36) (.const (.int .u8 48)) 5) 5,oo 38 (.convert 5 2 (.tmp 37)) 2,oo 39 (.binOp .add 2 (.tmp 33) (.tmp 38) 2) 2,oo 2 (.assign (.tmp 39)) 2] := by kernel_rfl
theorem e87_25 : c87_25 = .seq c87_26 c87_33 := by kernel_rfl
theorem e87_23 : c87_23 = .seq c87_24 c87_25 := by kernel_rfl
theorem e87_22 : c87_22 = .block 1 c87_23 := by kernel_rfl
def c87_34 := sB c87_21
theorem e87_34 : aI c87_34 = some [oo 40 (.binOp .add 3 (.tmp 24) (.const (.int .i64 1)) 3) 3,oo 24 (.move (.tmp 40)) 3] := by kernel_rfl
theorem e87_21 : c87_21 = .seq c87_22 c87_34 := by kernel_rfl
theorem e87_17 : c87_17 = .seq c87_18 c87_21 := by kernel_rfl
theorem e87_15 : c87_15 = .seq c87_16 c87_17 := by kernel_rfl
theorem e87_14 : c87_14 = .loop c87_15 := by kernel_rfl
theorem e87_13 : c87_13 = .block 0 c87_14 := by kernel_rfl
theorem e87_11 : c87_11 = .seq c87_12 c87_13 := by kernel_rfl
def c87_35 := sB c87_10
def c87_36 := sA c87_35
theorem e87_36 : aI c87_36 = some [oo 41 (.move (.tmp 2)) 2,oo 2 (.assign (.tmp 41)) 2,oo 3 (.assign (.const (.bool true))) 4] := by kernel_rfl
def c87_37 := sB c87_35
theorem e87_37 : c87_37 = .ret := by kernel_rfl
theorem e87_35 : c87_35 = .seq c87_36 c87_37 := by kernel_rfl
theorem e87_10 : c87_10 = .seq c87_11 c87_35 := by kernel_rfl
theorem e87_2 : c87_2 = .seq c87_3 c87_10 := by kernel_rfl
theorem e87_0 : c87_0 = .seq c87_1 c87_2 := by kernel_rfl
def c88_0 := cK Try.f88
def c88_1 := sA c88_0
theorem e88_1 : aI c88_1 = some [oo 4 (.assign (.const (.bool false))) 4] := by kernel_rfl
def c88_2 := sB c88_0
def c88_3 := sA c88_2
theorem e88_3 : aI c88_3 = some [oo 6 (.move (.tmp 0)) 92,oo 7 (.move (.tmp 1)) 9,oo 8 (.call ⟨.value (.func 42),(List.toArray [(.tmp 6),(.tmp 7)]),#[92,9]⟩) 4,oo 5 (.assign (.tmp 8)) 4] := by kernel_rfl
def c88_4 := sB c88_2
def c88_5 := sA c88_4
def c88_6 := sA c88_5
theorem e88_6 : aI c88_6 = some [oo 9 (.move (.tmp 5)) 4] := by kernel_rfl
def c88_7 := sB c88_5
def c88_8 := cT c88_7
theorem e88_8 : aI c88_8 = some [oo 10 (.move (.tmp 0)) 92,oo 11 (.move (.tmp 0)) 92,oo 12 (.nilCheck (.tmp 11)) 0,oo 13 (.fieldAddr 96 (.tmp 12) 0) 0,oo 14 (.fieldAddr 94 (.tmp 13) 0) 0,oo 15 (.load 87 (.tmp 14)) 87,oo 16 (.slice 87 (.tmp 15) (some (.const (.int .i64 1))) none none) 87,oo 17 (.nilCheck (.tmp 10)) 0,oo 18 (.fieldAddr 96 (.tmp 17) 0) 0,oo 19 (.fieldAddr 94 (.tmp 18) 0) 0,⟨none,none,.store 87 (.tmp 19) (.tmp 16),0⟩] := by kernel_rfl
def c88_9 := cE c88_7
theorem e88_9 : c88_9 = .skip := by kernel_rfl
theorem e88_7 : c88_7 = .cond (.tmp 9) c88_8 c88_9 := by kernel_rfl
theorem e88_5 : c88_5 = .seq c88_6 c88_7 := by kernel_rfl
def c88_10 := sB c88_4
def c88_11 := sA c88_10
theorem e88_11 : aI c88_11 = some [oo 20 (.move (.tmp 5)) 4,oo 4 (.assign (.tmp 20)) 4] := by kernel_rfl
def c88_12 := sB c88_10
theorem e88_12 : c88_12 = .ret := by kernel_rfl
theorem e88_10 : c88_10 = .seq c88_11 c88_12 := by kernel_rfl
theorem e88_4 : c88_4 = .seq c88_5 c88_10 := by kernel_rfl
theorem e88_2 : c88_2 = .seq c88_3 c88_4 := by kernel_rfl
theorem e88_0 : c88_0 = .seq c88_1 c88_2 := by kernel_rfl
def c89_0 := cK Try.f89
def c89_1 := sA c89_0
theorem e89_1 : aI c89_1 = some [oo 6 (.alloc 31) 0] := by kernel_rfl
def c89_2 := sB c89_0
def c89_3 := sA c89_2
theorem e89_3 : aI c89_3 = some [oo 9 (.move (.tmp 1)) 131,oo 10 (.call ⟨.value (.tmp 9),(List.toArray []),#[]⟩) 31,oo 7 (.alloc 31) 0,⟨none,none,.store 31 (.tmp 7) (.tmp 10),0⟩] := by kernel_rfl
def c89_4 := sB c89_2
def c89_5 := sA c89_4
def c89_6 := bB c89_5
def c89_7 := bB c89_6
def c89_8 := sA c89_7
def c89_9 := sA c89_8
theorem e89_9 : aI c89_9 = some [oo 11 (.move (.tmp 0)) 92,oo 12 (.nilCheck (.tmp 11)) 0,oo 13 (.fieldAddr 96 (.tmp 12) 1) 0,oo 14 (.load 4 (.tmp 13)) 4,oo 15 (.unOp .not 4 (.tmp 14)) 4] := by kernel_rfl
def c89_10 := sB c89_8
def c89_11 := cT c89_10
theorem e89_11 : c89_11 = .skip := by kernel_rfl
def c89_12 := cE c89_10
theorem e89_12 : c89_12 = .exit 0 := by kernel_rfl
theorem e89_10 : c89_10 = .cond (.tmp 15) c89_11 c89_12 := by kernel_rfl
theorem e89_8 : c89_8 = .seq c89_9 c89_10 := by kernel_rfl
def c89_13 := sB c89_7
def c89_14 := bB c89_13
def c89_15 := sA c89_14
theorem e89_15 : aI c89_15 = some [oo 16 (.move (.tmp 2)) 148,oo 17 (.move (.tmp 0)) 92,oo 18 (.nilCheck (.tmp 17)) 0,oo 19 (.fieldAddr 96 (.tmp 18) 0) 0,oo 20 (.call ⟨.value (.func 69),(List.toArray [(.tmp 19)]),#[94]⟩) 118,oo 21 (.field 118 (.tmp 20) 1) 9,oo 22 (.lookup 148 (.tmp 16) (.tmp 21) false) 3,oo 8 (.assign (.tmp 22)) 3] := by kernel_rfl
def c89_16 := sB c89_14
def c89_17 := sA c89_16
def c89_18 := sA c89_17
theorem e89_18 : aI c89_18 = some [oo 23 (.move (.tmp 8)) 3,oo 24 (.binOp .eql 3 (.tmp 23) (.const (.int .i64 0)) 3) 4,oo 25 (.move (.tmp 24)) 4,⟨some (25,false),some 26,.move (.tmp 0),92⟩,⟨some (25,false),some 27,.nilCheck (.tmp 26),0⟩,⟨some (25,false),some 28,.fieldAddr 96 (.tmp 27) 0,0⟩,⟨some (25,false),some 29,.call ⟨.value (.func 69),(List.toArray [(.tmp 28)]),#[94]⟩,118⟩,⟨some (25,false),some 30,.field 118 (.tmp 29) 0,3⟩,⟨some (25,false),some 31,.binOp .neq 3 (.tmp 30) (.const (.int .i64 3)) 3,4⟩,oo 32 (.pick (.tmp 25) (.const (.bool true)) (.tmp 31)) 4] := by kernel_rfl
def c89_19 := sB c89_17
def c89_20 := cT c89_19
theorem e89_20 : c89_20 = .exit 0 := by kernel_rfl
def c89_21 := cE c89_19
theorem e89_21 : c89_21 = .skip := by kernel_rfl
theorem e89_19 : c89_19 = .cond (.tmp 32) c89_20 c89_21 := by kernel_rfl
theorem e89_17 : c89_17 = .seq c89_18 c89_19 := by kernel_rfl
def c89_22 := sB c89_16
def c89_23 := sA c89_22
theorem e89_23 : aI c89_23 = some [oo 33 (.move (.tmp 0)) 92,oo 34 (.move (.tmp 0)) 92,oo 35 (.nilCheck (.tmp 34)) 0,oo 36 (.fieldAddr 96 (.tmp 35) 0) 0,oo 37 (.fieldAddr 94 (.tmp 36) 0) 0,oo 38 (.load 87 (.tmp 37)) 87,oo 39 (.slice 87 (.tmp 38) (some (.const (.int .i64 1))) none none) 87,oo 40 (.nilCheck (.tmp 33)) 0,oo 41 (.fieldAddr 96 (.tmp 40) 0) 0,oo 42 (.fieldAddr 94 (.tmp 41) 0) 0,⟨none,none,.store 87 (.tmp 42) (.tmp 39),0⟩] := by kernel_rfl
def c89_24 := sB c89_22
def o89_24 : List COp := [oo 43 (.move (.tmp 8)) 3,oo 44 (.load 31 (.tmp 7)) 31,oo 45 (.move (.tmp 1)) 131,oo 46 (.call ⟨.value (.tmp 45),(List.toArray []),#[]⟩) 31,oo 47 (.buildSlice 29 2 (List.toArray [(0,(.tmp 44)),(1,(.tmp 46))])) 29,oo 48 (.build 31 (List.toArray [(0,(.tmp 43)),(4,(.tmp 47))])) 31,⟨none,none,.store 31 (.tmp 7) (.tmp 48),0⟩]
def d89_24 : List (List Nat) := [[],[],[],[2],[1,3],[0,4],[5,3,0,1,2,3,4,5]]
theorem e89_24 : rDrw c89_24 = some (o89_24,d89_24) := by kernel_rfl
theorem k89_24 : chkCs o89_24 d89_24 X89.fn.ntmps [3,4,6] [[(0,false),(1,false),(2,false),(3,true),(4,true),(5,false),(6,true)]] = true := by kernel_rfl
theorem m89_24 : chkM [0,1,2,3,4,5,6] [0,1,2,3,4,5,6] c89_24 = true := by kernel_rfl
theorem e89_22 : c89_22 = .seq c89_23 c89_24 := by kernel_rfl
theorem e89_16 : c89_16 = .seq c89_17 c89_22 := by kernel_rfl
theorem e89_14 : c89_14 = .seq c89_15 c89_16 := by kernel_rfl
theorem e89_13 : c89_13 = .block 1 c89_14 := by kernel_rfl
theorem e89_7 : c89_7 = .seq c89_8 c89_13 := by kernel_rfl
theorem e89_6 : c89_6 = .loop c89_7 := by kernel_rfl
theorem e89_5 : c89_5 = .block 0 c89_6 := by kernel_rfl
def c89_25 := sB c89_4
def c89_26 := sA c89_25
theorem e89_26 : aI c89_26 = some [oo 49 (.load 31 (.tmp 7)) 31,⟨none,none,.store 31 (.tmp 6) (.tmp 49),0⟩] := by kernel_rfl
def c89_27 := sB c89_25
theorem e89_27 : c89_27 = .ret := by kernel_rfl
theorem e89_25 : c89_25 = .seq c89_26 c89_27 := by kernel_rfl
theorem e89_4 : c89_4 = .seq c89_5 c89_25 := by kernel_rfl
theorem e89_2 : c89_2 = .seq c89_3 c89_4 := by kernel_rfl
theorem e89_0 : c89_0 = .seq c89_1 c89_2 := by kernel_rfl
def c90_0 := cK Try.f90
def c90_1 := sA c90_0
theorem e90_1 : aI c90_1 = some [oo 2 (.alloc 31) 0] := by kernel_rfl
def c90_2 := sB c90_0
def c90_3 := sA c90_2
theorem e90_3 : aI c90_3 = some [oo 3 (.move (.tmp 0)) 92,oo 4 (.move (.tmp 0)) 92,oo 5 (.makeFunc (.func 96) (List.toArray [(.tmp 4)]) (List.toArray [])) 131,oo 6 (.makeMap 148 none) 148,⟨none,none,.insert 148 (.tmp 6) (.const (.string ⟨#[42]⟩)) (.const (.int .i64 5)),0⟩,oo 7 (.move (.tmp 6)) 148,oo 8 (.call ⟨.value (.func 89),(List.toArray [(.tmp 3),(.tmp 5),(.tmp 7)]),#[92,131,148]⟩) 31,⟨none,none,.store 31 (.tmp 2) (.tmp 8),0⟩] := by kernel_rfl
def c90_4 := sB c90_2
theorem e90_4 : c90_4 = .ret := by kernel_rfl
theorem e90_2 : c90_2 = .seq c90_3 c90_4 := by kernel_rfl
theorem e90_0 : c90_0 = .seq c90_1 c90_2 := by kernel_rfl
def c91_0 := cK Try.f91
def c91_1 := sA c91_0
theorem e91_1 : aI c91_1 = some [oo 4 (.assign (.const (.int .i64 0))) 3] := by kernel_rfl
def c91_2 := sB c91_0
def c91_3 := sA c91_2
def c91_4 := sA c91_3
theorem e91_4 : aI c91_4 = some [oo 6 (.move (.tmp 0)) 43,oo 7 (.call ⟨.builtin .len,#[(.tmp 6)],#[43]⟩) 3,oo 8 (.move (.const (.int .i64 0))) 3] := by kernel_rfl
def c91_5 := sB c91_3
def c91_6 := bB c91_5
def c91_7 := bB c91_6
def c91_8 := sA c91_7
theorem e91_8 : aI c91_8 = some [oo 9 (.binOp .lss 3 (.tmp 8) (.tmp 7) 3) 0] := by kernel_rfl
def c91_9 := sB c91_7
def c91_10 := sA c91_9
def c91_11 := cT c91_10
theorem e91_11 : c91_11 = .skip := by kernel_rfl
def c91_12 := cE c91_10
theorem e91_12 : c91_12 = .exit 0 := by kernel_rfl
theorem e91_10 : c91_10 = .cond (.tmp 9) c91_11 c91_12 := by kernel_rfl
def c91_13 := sB c91_9
def c91_14 := sA c91_13
def c91_15 := bB c91_14
def c91_16 := sA c91_15
theorem e91_16 : aI c91_16 = some [oo 10 (.move (.tmp 8)) 3,oo 5 (.assign (.tmp 10)) 3] := by kernel_rfl
def c91_17 := sB c91_15
def c91_18 := sA c91_17
theorem e91_18 : aI c91_18 = some [oo 11 (.move (.tmp 1)) 133,oo 12 (.move (.tmp 0)) 43,oo 13 (.move (.tmp 5)) 3,oo 14 (.indexAddr 43 (.tmp 12) (.tmp 13)) 0,oo 15 (.load 3 (.tmp 14)) 3,oo 16 (.call ⟨.value (.tmp 11),(List.toArray [(.tmp 15)]),#[3]⟩) 4] := by kernel_rfl
def c91_19 := sB c91_17
def c91_20 := cT c91_19
def c91_21 := sA c91_20
theorem e91_21 : aI c91_21 = some [oo 17 (.move (.tmp 5)) 3,oo 4 (.assign (.tmp 17)) 3] := by kernel_rfl
def c91_22 := sB c91_20
theorem e91_22 : c91_22 = .ret := by kernel_rfl
theorem e91_20 : c91_20 = .seq c91_21 c91_22 := by kernel_rfl
def c91_23 := cE c91_19
theorem e91_23 : c91_23 = .skip := by kernel_rfl
theorem e91_19 : c91_19 = .cond (.tmp 16) c91_20 c91_23 := by kernel_rfl
theorem e91_17 : c91_17 = .seq c91_18 c91_19 := by kernel_rfl
theorem e91_15 : c91_15 = .seq c91_16 c91_17 := by kernel_rfl
theorem e91_14 : c91_14 = .block 1 c91_15 := by kernel_rfl
def c91_24 := sB c91_13
theorem e91_24 : aI c91_24 = some [oo 18 (.binOp .add 3 (.tmp 8) (.const (.int .i64 1)) 3) 3,oo 8 (.move (.tmp 18)) 3] := by kernel_rfl
theorem e91_13 : c91_13 = .seq c91_14 c91_24 := by kernel_rfl
theorem e91_9 : c91_9 = .seq c91_10 c91_13 := by kernel_rfl
theorem e91_7 : c91_7 = .seq c91_8 c91_9 := by kernel_rfl
theorem e91_6 : c91_6 = .loop c91_7 := by kernel_rfl
theorem e91_5 : c91_5 = .block 0 c91_6 := by kernel_rfl
theorem e91_3 : c91_3 = .seq c91_4 c91_5 := by kernel_rfl
def c91_25 := sB c91_2
def c91_26 := sA c91_25
theorem e91_26 : aI c91_26 = some [oo 4 (.assign (.const (.int .i64 (-1)))) 3] := by kernel_rfl
def c91_27 := sB c91_25
theorem e91_27 : c91_27 = .ret := by kernel_rfl
theorem e91_25 : c91_25 = .seq c91_26 c91_27 := by kernel_rfl
theorem e91_2 : c91_2 = .seq c91_3 c91_25 := by kernel_rfl
theorem e91_0 : c91_0 = .seq c91_1 c91_2 := by kernel_rfl
def c92_0 := cK Try.f92
def c92_1 := sA c92_0
theorem e92_1 : aI c92_1 = some [oo 4 (.assign (.const (.int .i64 0))) 3] := by kernel_rfl
def c92_2 := sB c92_0
def c92_3 := sA c92_2
def c92_4 := sA c92_3
theorem e92_4 : aI c92_4 = some [oo 6 (.move (.tmp 0)) 28,oo 7 (.call ⟨.builtin .len,#[(.tmp 6)],#[28]⟩) 3,oo 8 (.move (.const (.int .i64 0))) 3] := by kernel_rfl
def c92_5 := sB c92_3
def c92_6 := bB c92_5
def c92_7 := bB c92_6
def c92_8 := sA c92_7
theorem e92_8 : aI c92_8 = some [oo 9 (.binOp .lss 3 (.tmp 8) (.tmp 7) 3) 0] := by kernel_rfl
def c92_9 := sB c92_7
def c92_10 := sA c92_9
def c92_11 := cT c92_10
theorem e92_11 : c92_11 = .skip := by kernel_rfl
def c92_12 := cE c92_10
theorem e92_12 : c92_12 = .exit 0 := by kernel_rfl
theorem e92_10 : c92_10 = .cond (.tmp 9) c92_11 c92_12 := by kernel_rfl
def c92_13 := sB c92_9
def c92_14 := sA c92_13
def c92_15 := bB c92_14
def c92_16 := sA c92_15
theorem e92_16 : aI c92_16 = some [oo 10 (.move (.tmp 8)) 3,oo 5 (.assign (.tmp 10)) 3] := by kernel_rfl
def c92_17 := sB c92_15
def c92_18 := sA c92_17
theorem e92_18 : aI c92_18 = some [oo 11 (.move (.tmp 1)) 97,oo 12 (.move (.tmp 0)) 28,oo 13 (.move (.tmp 5)) 3,oo 14 (.indexAddr 28 (.tmp 12) (.tmp 13)) 0,oo 15 (.load 9 (.tmp 14)) 9,oo 16 (.call ⟨.value (.tmp 11),(List.toArray [(.tmp 15)]),#[9]⟩) 4] := by kernel_rfl
def c92_19 := sB c92_17
def c92_20 := cT c92_19
def c92_21 := sA c92_20
theorem e92_21 : aI c92_21 = some [oo 17 (.move (.tmp 5)) 3,oo 4 (.assign (.tmp 17)) 3] := by kernel_rfl
def c92_22 := sB c92_20
theorem e92_22 : c92_22 = .ret := by kernel_rfl
theorem e92_20 : c92_20 = .seq c92_21 c92_22 := by kernel_rfl
def c92_23 := cE c92_19
theorem e92_23 : c92_23 = .skip := by kernel_rfl
theorem e92_19 : c92_19 = .cond (.tmp 16) c92_20 c92_23 := by kernel_rfl
theorem e92_17 : c92_17 = .seq c92_18 c92_19 := by kernel_rfl
theorem e92_15 : c92_15 = .seq c92_16 c92_17 := by kernel_rfl
theorem e92_14 : c92_14 = .block 1 c92_15 := by kernel_rfl
def c92_24 := sB c92_13
theorem e92_24 : aI c92_24 = some [oo 18 (.binOp .add 3 (.tmp 8) (.const (.int .i64 1)) 3) 3,oo 8 (.move (.tmp 18)) 3] := by kernel_rfl
theorem e92_13 : c92_13 = .seq c92_14 c92_24 := by kernel_rfl
theorem e92_9 : c92_9 = .seq c92_10 c92_13 := by kernel_rfl
theorem e92_7 : c92_7 = .seq c92_8 c92_9 := by kernel_rfl
theorem e92_6 : c92_6 = .loop c92_7 := by kernel_rfl
theorem e92_5 : c92_5 = .block 0 c92_6 := by kernel_rfl
theorem e92_3 : c92_3 = .seq c92_4 c92_5 := by kernel_rfl
def c92_25 := sB c92_2
def c92_26 := sA c92_25
theorem e92_26 : aI c92_26 = some [oo 4 (.assign (.const (.int .i64 (-1)))) 3] := by kernel_rfl
def c92_27 := sB c92_25
theorem e92_27 : c92_27 = .ret := by kernel_rfl
theorem e92_25 : c92_25 = .seq c92_26 c92_27 := by kernel_rfl
theorem e92_2 : c92_2 = .seq c92_3 c92_25 := by kernel_rfl
theorem e92_0 : c92_0 = .seq c92_1 c92_2 := by kernel_rfl
def c93_0 := cK Try.f93
def c93_1 := sA c93_0
theorem e93_1 : aI c93_1 = some [oo 2 (.assign (.const (.int .i64 0))) 3,oo 3 (.assign (.const (.int .i64 0))) 35] := by kernel_rfl
def c93_2 := sB c93_0
def c93_3 := sA c93_2
def c93_4 := sA c93_3
theorem e93_4 : aI c93_4 = some [oo 9 (.move (.tmp 0)) 43,oo 10 (.call ⟨.builtin .len,#[(.tmp 9)],#[43]⟩) 3,oo 11 (.binOp .gtr 3 (.tmp 10) (.const (.int .i64 4)) 3) 4,oo 12 (.move (.tmp 11)) 4,⟨some (12,false),some 13,.move (.tmp 0),43⟩,⟨some (12,false),some 14,.call ⟨.value (.func 77),(List.toArray [(.tmp 13),(.func 97)]),#[43,133]⟩,4⟩,oo 15 (.pick (.tmp 12) (.const (.bool true)) (.tmp 14)) 4] := by kernel_rfl
def c93_5 := sB c93_3
def c93_6 := cT c93_5
def c93_7 := sA c93_6
theorem e93_7 : aI c93_7 = some [oo 2 (.assign (.const (.int .i64 0))) 3,oo 3 (.assign (.const (.int .i64 1))) 35] := by kernel_rfl
def c93_8 := sB c93_6
theorem e93_8 : c93_8 = .ret := by kernel_rfl
theorem e93_6 : c93_6 = .seq c93_7 c93_8 := by kernel_rfl
def c93_9 := cE c93_5
theorem e93_9 : c93_9 = .skip := by kernel_rfl
theorem e93_5 : c93_5 = .cond (.tmp 15) c93_6 c93_9 := by kernel_rfl
theorem e93_3 : c93_3 = .seq c93_4 c93_5 := by kernel_rfl
def c93_10 := sB c93_2
def c93_11 := sA c93_10
def c93_12 := sA c93_11
theorem e93_12 : aI c93_12 = some [oo 16 (.move (.tmp 0)) 43,oo 17 (.call ⟨.value (.func 98),(List.toArray [(.tmp 16),(.const (.int .i64 0))]),#[43,3]⟩) 4] := by kernel_rfl
def c93_13 := sB c93_11
def c93_14 := cT c93_13
def c93_15 := sA c93_14
theorem e93_15 : aI c93_15 = some [oo 2 (.assign (.const (.int .i64 0))) 3,oo 3 (.assign (.const (.int .i64 0))) 35] := by kernel_rfl
def c93_16 := sB c93_14
theorem e93_16 : c93_16 = .ret := by kernel_rfl
theorem e93_14 : c93_14 = .seq c93_15 c93_16 := by kernel_rfl
def c93_17 := cE c93_13
theorem e93_17 : c93_17 = .skip := by kernel_rfl
theorem e93_13 : c93_13 = .cond (.tmp 17) c93_14 c93_17 := by kernel_rfl
theorem e93_11 : c93_11 = .seq c93_12 c93_13 := by kernel_rfl
def c93_18 := sB c93_10
def c93_19 := sA c93_18
theorem e93_19 : aI c93_19 = some [oo 4 (.assign (.const (.int .u64 1))) 158] := by kernel_rfl
def c93_20 := sB c93_18
def c93_21 := sA c93_20
def c93_22 := sA c93_21
theorem e93_22 : aI c93_22 = some [oo 18 (.move (.tmp 0)) 43,oo 19 (.call ⟨.builtin .len,#[(.tmp 18)],#[43]⟩) 3,oo 20 (.move (.const (.int .i64 0))) 3] := by kernel_rfl
def c93_23 := sB c93_21
def c93_24 := bB c93_23
def c93_25 := bB c93_24
def c93_26 := sA c93_25
theorem e93_26 : aI c93_26 = some [oo 21 (.binOp .lss 3 (.tmp 20) (.tmp 19) 3) 0] := by kernel_rfl
def c93_27 := sB c93_25
def c93_28 := sA c93_27
def c93_29 := cT c93_28
theorem e93_29 : c93_29 = .skip := by kernel_rfl
def c93_30 := cE c93_28
theorem e93_30 : c93_30 = .exit 0 := by kernel_rfl
theorem e93_28 : c93_28 = .cond (.tmp 21) c93_29 c93_30 := by kernel_rfl
def c93_31 := sB c93_27
def c93_32 := sA c93_31
def c93_33 := bB c93_32
def c93_34 := sA c93_33
theorem e93_34 : aI c93_34 = some [oo 22 (.indexAddr 43 (.tmp 18) (.tmp 20)) 0,oo 23 (.load 3 (.tmp 22)) 3,oo 6 (.assign (.tmp 23)) 3] := by kernel_rfl
def c93_35 := sB c93_33
def c93_36 := sA c93_35
theorem e93_36 : aI c93_36 = some [oo 25 (.move (.tmp 4)) 158,oo 26 (.move (.tmp 6)) 3,oo 27 (.convert 3 158 (.tmp 26)) 158,oo 28 (.call ⟨.value (.func 99),(List.toArray [(.tmp 25),(.tmp 27)]),#[158,158]⟩) 159,oo 24 (.move (.tmp 28)) 159,oo 29 (.extract (.tmp 24) 0) 158,oo 30 (.extract (.tmp 24) 1) 158,oo 7 (.assign (.tmp 29)) 158,oo 8 (.assign (.tmp 30)) 158] := by kernel_rfl
def c93_37 := sB c93_35
def c93_38 := sA c93_37
def c93_39 := sA c93_38
theorem e93_39 : aI c93_39 = some [oo 31 (.move (.tmp 7)) 158,oo 32 (.binOp .gtr 158 (.tmp 31) (.const (.int .u64 0)) 158) 4,oo 33 (.move (.tmp 32)) 4,⟨some (33,false),some 34,.move (.tmp 8),158⟩,⟨some (33,false),some 35,.binOp .geq 158 (.tmp 34) (.const (.int .u64 4611686018427387904)) 158,4⟩,oo 36 (.pick (.tmp 33) (.const (.bool true)) (.tmp 35)) 4] := by kernel_rfl
def c93_40 := sB c93_38
def c93_41 := cT c93_40
def c93_42 := sA c93_41
theorem e93_42 : aI c93_42 = some [oo 2 (.assign (.const (.int .i64 0))) 3,oo 3 (.assign (.const (.int .i64 2))) 35] := by kernel_rfl
def c93_43 := sB c93_41
theorem e93_43 : c93_43 = .ret := by kernel_rfl
theorem e93_41 : c93_41 = .seq c93_42 c93_43 := by kernel_rfl
def c93_44 := cE c93_40
theorem e93_44 : c93_44 = .skip := by kernel_rfl
theorem e93_40 : c93_40 = .cond (.tmp 36) c93_41 c93_44 := by kernel_rfl
theorem e93_38 : c93_38 = .seq c93_39 c93_40 := by kernel_rfl
def c93_45 := sB c93_37
theorem e93_45 : aI c93_45 = some [oo 37 (.move (.tmp 8)) 158,oo 4 (.assign (.tmp 37)) 158] := by kernel_rfl
theorem e93_37 : c93_37 = .seq c93_38 c93_45 := by kernel_rfl
theorem e93_35 : c93_35 = .seq c93_36 c93_37 := by kernel_rfl
theorem e93_33 : c93_33 = .seq c93_34 c93_35 := by kernel_rfl
theorem e93_32 : c93_32 = .block 1 c93_33 := by kernel_rfl
def c93_46 := sB c93_31
theorem e93_46 : aI c93_46 = some [oo 38 (.binOp .add 3 (.tmp 20) (.const (.int .i64 1)) 3) 3,oo 20 (.move (.tmp 38)) 3] := by kernel_rfl
theorem e93_31 : c93_31 = .seq c93_32 c93_46 := by kernel_rfl
theorem e93_27 : c93_27 = .seq c93_28 c93_31 := by kernel_rfl
theorem e93_25 : c93_25 = .seq c93_26 c93_27 := by kernel_rfl
theorem e93_24 : c93_24 = .loop c93_25 := by kernel_rfl
theorem e93_23 : c93_23 = .block 0 c93_24 := by kernel_rfl
theorem e93_21 : c93_21 = .seq c93_22 c93_23 := by kernel_rfl
def c93_47 := sB c93_20
def c93_48 := sA c93_47
theorem e93_48 : aI c93_48 = some [oo 39 (.move (.tmp 4)) 158,oo 40 (.convert 158 3 (.tmp 39)) 3,oo 2 (.assign (.tmp 40)) 3,oo 3 (.assign (.const (.int .i64 0))) 35] := by kernel_rfl
def c93_49 := sB c93_47
theorem e93_49 : c93_49 = .ret := by kernel_rfl
theorem e93_47 : c93_47 = .seq c93_48 c93_49 := by kernel_rfl
theorem e93_20 : c93_20 = .seq c93_21 c93_47 := by kernel_rfl
theorem e93_18 : c93_18 = .seq c93_19 c93_20 := by kernel_rfl
theorem e93_10 : c93_10 = .seq c93_11 c93_18 := by kernel_rfl
theorem e93_2 : c93_2 = .seq c93_3 c93_10 := by kernel_rfl
theorem e93_0 : c93_0 = .seq c93_1 c93_2 := by kernel_rfl
def c94_0 := cK Try.f94
def c94_1 := sA c94_0
theorem e94_1 : aI c94_1 = some [oo 4 (.alloc 154) 0,oo 5 (.assign (.const (.bool false))) 4] := by kernel_rfl
def c94_2 := sB c94_0
def c94_3 := sA c94_2
theorem e94_3 : aI c94_3 = some [oo 6 (.assign (.const (.int .i64 0))) 3] := by kernel_rfl
def c94_4 := sB c94_2
def c94_5 := sA c94_4
def c94_6 := sA c94_5
theorem e94_6 : aI c94_6 = some [oo 12 (.move (.tmp 1)) 78,oo 13 (.call ⟨.builtin .len,#[(.tmp 12)],#[78]⟩) 3,oo 14 (.move (.const (.int .i64 0))) 3] := by kernel_rfl
def c94_7 := sB c94_5
def c94_8 := bB c94_7
def c94_9 := bB c94_8
def c94_10 := sA c94_9
theorem e94_10 : aI c94_10 = some [oo 15 (.binOp .lss 3 (.tmp 14) (.tmp 13) 3) 0] := by kernel_rfl
def c94_11 := sB c94_9
def c94_12 := sA c94_11
def c94_13 := cT c94_12
theorem e94_13 : c94_13 = .skip := by kernel_rfl
def c94_14 := cE c94_12
theorem e94_14 : c94_14 = .exit 0 := by kernel_rfl
theorem e94_12 : c94_12 = .cond (.tmp 15) c94_13 c94_14 := by kernel_rfl
def c94_15 := sB c94_11
def c94_16 := sA c94_15
def c94_17 := bB c94_16
def c94_18 := sA c94_17
theorem e94_18 : aI c94_18 = some [oo 16 (.indexAddr 78 (.tmp 12) (.tmp 14)) 0,oo 17 (.load 137 (.tmp 16)) 137,oo 8 (.alloc 137) 0,⟨none,none,.store 137 (.tmp 8) (.tmp 17),0⟩] := by kernel_rfl
def c94_19 := sB c94_17
def c94_20 := sA c94_19
def c94_21 := sA c94_20
theorem e94_21 : aI c94_21 = some [oo 18 (.fieldAddr 137 (.tmp 8) 1) 0,oo 19 (.load 3 (.tmp 18)) 3,oo 20 (.binOp .lss 3 (.tmp 19) (.const (.int .i64 0)) 3) 4,oo 21 (.move (.tmp 20)) 4,⟨some (21,false),some 22,.fieldAddr 137 (.tmp 8) 1,0⟩,⟨some (21,false),some 23,.load 3 (.tmp 22),3⟩,⟨some (21,false),some 24,.move (.tmp 0),43⟩,⟨some (21,false),some 25,.call ⟨.builtin .len,#[(.tmp 24)],#[43]⟩,3⟩,⟨some (21,false),some 26,.binOp .geq 3 (.tmp 23) (.tmp 25) 3,4⟩,oo 27 (.pick (.tmp 21) (.const (.bool true)) (.tmp 26)) 4] := by kernel_rfl
def c94_22 := sB c94_20
def c94_23 := cT c94_22
def c94_24 := sA c94_23
theorem e94_24 : aI c94_24 = some [oo 28 (.load 154 (.tmp 4)) 154,⟨none,none,.store 154 (.tmp 4) (.tmp 28),0⟩,oo 5 (.assign (.const (.bool false))) 4] := by kernel_rfl
def c94_25 := sB c94_23
theorem e94_25 : c94_25 = .ret := by kernel_rfl
theorem e94_23 : c94_23 = .seq c94_24 c94_25 := by kernel_rfl
def c94_26 := cE c94_22
theorem e94_26 : c94_26 = .skip := by kernel_rfl
theorem e94_22 : c94_22 = .cond (.tmp 27) c94_23 c94_26 := by kernel_rfl
theorem e94_20 : c94_20 = .seq c94_21 c94_22 := by kernel_rfl
def c94_27 := sB c94_19
def c94_28 := sA c94_27
theorem e94_28 : aI c94_28 = some [oo 29 (.move (.tmp 6)) 3,oo 30 (.binOp .eql 3 (.tmp 29) (.const (.int .i64 2)) 3) 4,oo 31 (.move (.tmp 30)) 4,⟨some (31,false),some 32,.move (.tmp 6),3⟩,⟨some (31,false),some 33,.binOp .eql 3 (.tmp 32) (.const (.int .i64 3)) 3,4⟩,oo 34 (.pick (.tmp 31) (.const (.bool true)) (.tmp 33)) 4,oo 9 (.assign (.tmp 34)) 4] := by kernel_rfl
def c94_29 := sB c94_27
def c94_30 := sA c94_29
theorem e94_30 : aI c94_30 = some [oo 35 (.fieldAddr 137 (.tmp 8) 1) 0,oo 36 (.load 3 (.tmp 35)) 3,oo 37 (.indexAddr 154 (.tmp 4) (.tmp 36)) 0,oo 10 (.assign (.tmp 37)) 161] := by kernel_rfl
def c94_31 := sB c94_29
def c94_32 := sA c94_31
def c94_33 := sA c94_32
theorem e94_33 : aI c94_33 = some [oo 38 (.fieldAddr 137 (.tmp 8) 0) 0,oo 39 (.load 3 (.tmp 38)) 3] := by kernel_rfl
def c94_34 := sB c94_32
def c94_35 := bB c94_34
def c94_36 := sA c94_35
def c94_37 := sA c94_36
theorem e94_37 : aI c94_37 = some [oo 41 (.binOp .eql 3 (.tmp 39) (.const (.int .i64 0)) 3) 4,oo 40 (.assign (.tmp 41)) 4] := by kernel_rfl
def c94_38 := sB c94_36
def c94_39 := cT c94_38
theorem e94_39 : c94_39 = .skip := by kernel_rfl
def c94_40 := cE c94_38
def c94_41 := sA c94_40
theorem e94_41 : aI c94_41 = some [oo 42 (.binOp .eql 3 (.tmp 39) (.const (.int .i64 1)) 3) 4,oo 40 (.assign (.tmp 42)) 4] := by kernel_rfl
def c94_42 := sB c94_40
def c94_43 := cT c94_42
theorem e94_43 : c94_43 = .skip := by kernel_rfl
def c94_44 := cE c94_42
def c94_45 := sA c94_44
theorem e94_45 : aI c94_45 = some [oo 43 (.binOp .eql 3 (.tmp 39) (.const (.int .i64 2)) 3) 4,oo 40 (.assign (.tmp 43)) 4] := by kernel_rfl
def c94_46 := sB c94_44
def c94_47 := cT c94_46
theorem e94_47 : c94_47 = .skip := by kernel_rfl
def c94_48 := cE c94_46
theorem e94_48 : aI c94_48 = some [oo 44 (.binOp .eql 3 (.tmp 39) (.const (.int .i64 3)) 3) 4,oo 40 (.assign (.tmp 44)) 4] := by kernel_rfl
theorem e94_46 : c94_46 = .cond (.tmp 40) c94_47 c94_48 := by kernel_rfl
theorem e94_44 : c94_44 = .seq c94_45 c94_46 := by kernel_rfl
theorem e94_42 : c94_42 = .cond (.tmp 40) c94_43 c94_44 := by kernel_rfl
theorem e94_40 : c94_40 = .seq c94_41 c94_42 := by kernel_rfl
theorem e94_38 : c94_38 = .cond (.tmp 40) c94_39 c94_40 := by kernel_rfl
theorem e94_36 : c94_36 = .seq c94_37 c94_38 := by kernel_rfl
def c94_49 := sB c94_35
def c94_50 := cT c94_49
def c94_51 := sA c94_50
theorem e94_51 : aI c94_51 = some [oo 45 (.move (.tmp 10)) 161,oo 46 (.nilCheck (.tmp 45)) 0,oo 47 (.fieldAddr 152 (.tmp 46) 0) 0,oo 48 (.load 4 (.tmp 47)) 4,oo 49 (.unOp .not 4 (.tmp 48)) 4,oo 50 (.move (.tmp 49)) 4,⟨some (50,true),some 51,.fieldAddr 137 (.tmp 8) 2,0⟩,⟨some (50,true),some 52,.load 3 (.tmp 51),3⟩,⟨some (50,true),some 53,.binOp .eql 3 (.tmp 52) (.const (.int .i64 0)) 3,4⟩,oo 54 (.pick (.tmp 50) (.tmp 53) (.const (.bool false))) 4,oo 55 (.move (.tmp 54)) 4,⟨some (55,true),some 56,.move (.tmp 9),4⟩,⟨some (55,true),some 57,.fieldAddr 137 (.tmp 8) 0,0⟩,⟨some (55,true),some 58,.load 3 (.tmp 57),3⟩,⟨some (55,true),some 59,.binOp .eql 3 (.tmp 58) (.const (.int .i64 3)) 3,4⟩,⟨some (55,true),some 60,.binOp .eql 4 (.tmp 56) (.tmp 59) 4,4⟩,oo 61 (.pick (.tmp 55) (.tmp 60) (.const (.bool false))) 4,oo 5 (.assign (.tmp 61)) 4] := by kernel_rfl
def c94_52 := sB c94_50
theorem e94_52 : aI c94_52 = some [oo 62 (.move (.tmp 10)) 161,oo 63 (.nilCheck (.tmp 62)) 0,oo 64 (.fieldAddr 152 (.tmp 63) 0) 0,⟨none,none,.store 4 (.tmp 64) (.const (.bool true)),0⟩] := by kernel_rfl
theorem e94_50 : c94_50 = .seq c94_51 c94_52 := by kernel_rfl
def c94_53 := cE c94_49
def c94_54 := sA c94_53
theorem e94_54 : aI c94_54 = some [oo 66 (.binOp .eql 3 (.tmp 39) (.const (.int .i64 4)) 3) 4,oo 65 (.assign (.tmp 66)) 4] := by kernel_rfl
def c94_55 := sB c94_53
def c94_56 := cT c94_55
def c94_57 := sA c94_56
def o94_57 : List COp := [oo 67 (.move (.tmp 10)) 161,oo 68 (.nilCheck (.tmp 67)) 0,oo 69 (.fieldAddr 152 (.tmp 68) 0) 0,oo 70 (.load 4 (.tmp 69)) 4,oo 71 (.move (.tmp 70)) 4,⟨some (71,true),some 72,.move (.tmp 10),161⟩,⟨some (71,true),some 73,.nilCheck (.tmp 72),0⟩,⟨some (71,true),some 74,.fieldAddr 152 (.tmp 73) 1,0⟩,⟨some (71,true),some 75,.load 3 (.tmp 74),3⟩,⟨some (71,true),some 76,.binOp .eql 3 (.tmp 75) (.const (.int .i64 0)) 3,4⟩,oo 77 (.pick (.tmp 71) (.tmp 76) (.const (.bool false))) 4,oo 78 (.move (.tmp 77)) 4,⟨some (78,true),some 79,.move (.tmp 9),4⟩,⟨some (78,true),some 80,.unOp .not 4 (.tmp 79),4⟩,oo 81 (.pick (.tmp 78) (.tmp 80) (.const (.bool false))) 4,oo 82 (.move (.tmp 81)) 4,⟨some (82,true),some 83,.fieldAddr 137 (.tmp 8) 2,0⟩,⟨some (82,true),some 84,.load 3 (.tmp 83),3⟩,⟨some (82,true),some 85,.binOp .gtr 3 (.tmp 84) (.const (.int .i64 0)) 3,4⟩,oo 86 (.pick (.tmp 82) (.tmp 85) (.const (.bool false))) 4,oo 87 (.move (.tmp 86)) 4,⟨some (87,true),some 88,.move (.tmp 0),43⟩,⟨some (87,true),some 89,.fieldAddr 137 (.tmp 8) 1,0⟩,⟨some (87,true),some 90,.load 3 (.tmp 89),3⟩,⟨some (87,true),some 91,.indexAddr 43 (.tmp 88) (.tmp 90),0⟩,⟨some (87,true),some 92,.load 3 (.tmp 91),3⟩,⟨some (87,true),some 93,.fieldAddr 137 (.tmp 8) 2,0⟩,⟨some (87,true),some 94,.load 3 (.tmp 93),3⟩,⟨some (87,true),some 95,.binOp .rem 3 (.tmp 92) (.tmp 94) 3,3⟩,⟨some (87,true),some 96,.binOp .eql 3 (.tmp 95) (.const (.int .i64 0)) 3,4⟩,oo 97 (.pick (.tmp 87) (.tmp 96) (.const (.bool false))) 4,oo 5 (.assign (.tmp 97)) 4]
def d94_57 : List (List Nat) := [[],[0],[1],[2],[3],[4],[5,4],[6,4],[7,4],[8,4],[4,9],[10,4],[11],[12,11],[11,13],[14,11],[15],[16,15],[17,15],[15,18],[19,15],[20],[20],[22,20],[21,23,20],[24,20],[20],[26,20],[25,27,20],[28,20],[20,29],[30,20,0,1,2,3,4,5,6,7,8,9,10,11,12,13,14,15,16,17,18,19,20,21,22,23,24,25,26,27,28,29,30]]
theorem e94_57 : rDrw c94_57 = some (o94_57,d94_57) := by kernel_rfl
theorem k94_57 : chkCs o94_57 d94_57 X94.fn.ntmps [] [[(0,false),(1,false),(2,false),(3,false),(4,false),(5,false),(6,false),(7,false),(8,false),(9,false),(10,false),(11,false),(12,false),(13,false),(14,false),(15,false),(16,false),(17,false),(18,false),(19,false),(20,false),(21,false),(22,false),(23,false),(24,false),(25,false),(26,false),(27,false),(28,false),(29,false),(30,false),(31,false)]] = true := by kernel_rfl
theorem m94_57 : chkM [0,1,2,3,4,5,6,7,8,9,10,11,12,13,14,15,16,17,18,19,20,21,22,23,24,25,26,27,28,29,30,31] [0,1,2,3,4,5,6,7,8,9,10,11,12,13,14,15,16,17,18,19,20,21,22,23,24,25,26,27,28,29,30,31] c94_57 = true := by kernel_rfl
def c94_58 := sB c94_56
theorem e94_58 : aI c94_58 = some [oo 98 (.move (.tmp 10)) 161,oo 99 (.fieldAddr 137 (.tmp 8) 2) 0,oo 100 (.load 3 (.tmp 99)) 3,oo 101 (.nilCheck (.tmp 98)) 0,oo 102 (.fieldAddr 152 (.tmp 101) 1) 0,⟨none,none,.store 3 (.tmp 102) (.tmp 100),0⟩] := by kernel_rfl
theorem e94_56 : c94_56 = .seq c94_57 c94_58 := by kernel_rfl
def c94_59 := cE c94_55
theorem e94_59 : aI c94_59 = some [oo 5 (.assign (.const (.bool false))) 4] := by kernel_rfl
theorem e94_55 : c94_55 = .cond (.tmp 65) c94_56 c94_59 := by kernel_rfl
theorem e94_53 : c94_53 = .seq c94_54 c94_55 := by kernel_rfl
theorem e94_49 : c94_49 = .cond (.tmp 40) c94_50 c94_53 := by kernel_rfl
theorem e94_35 : c94_35 = .seq c94_36 c94_49 := by kernel_rfl
theorem e94_34 : c94_34 = .block 2 c94_35 := by kernel_rfl
theorem e94_32 : c94_32 = .seq c94_33 c94_34 := by kernel_rfl
def c94_60 := sB c94_31
def c94_61 := sA c94_60
def c94_62 := sA c94_61
theorem e94_62 : aI c94_62 = some [oo 103 (.move (.tmp 5)) 4,oo 104 (.unOp .not 4 (.tmp 103)) 4] := by kernel_rfl
def c94_63 := sB c94_61
def c94_64 := cT c94_63
def c94_65 := sA c94_64
theorem e94_65 : aI c94_65 = some [oo 105 (.load 154 (.tmp 4)) 154,⟨none,none,.store 154 (.tmp 4) (.tmp 105),0⟩,oo 5 (.assign (.const (.bool false))) 4] := by kernel_rfl
def c94_66 := sB c94_64
theorem e94_66 : c94_66 = .ret := by kernel_rfl
theorem e94_64 : c94_64 = .seq c94_65 c94_66 := by kernel_rfl
def c94_67 := cE c94_63
theorem e94_67 : c94_67 = .skip := by kernel_rfl
theorem e94_63 : c94_63 = .cond (.tmp 104) c94_64 c94_67 := by kernel_rfl
theorem e94_61 : c94_61 = .seq c94_62 c94_63 := by kernel_rfl
def c94_68 := sB c94_60
theorem e94_68 : aI c94_68 = some [oo 106 (.fieldAddr 137 (.tmp 8) 0) 0,oo 107 (.load 3 (.tmp 106)) 3,oo 6 (.assign (.tmp 107)) 3] := by kernel_rfl
theorem e94_60 : c94_60 = .seq c94_61 c94_68 := by kernel_rfl
theorem e94_31 : c94_31 = .seq c94_32 c94_60 := by kernel_rfl
theorem e94_29 : c94_29 = .seq c94_30 c94_31 := by kernel_rfl
theorem e94_27 : c94_27 = .seq c94_28 c94_29 := by kernel_rfl
theorem e94_19 : c94_19 = .seq c94_20 c94_27 := by kernel_rfl
theorem e94_17 : c94_17 = .seq c94_18 c94_19 := by kernel_rfl
theorem e94_16 : c94_16 = .block 1 c94_17 := by kernel_rfl
def c94_69 := sB c94_15
theorem e94_69 : aI c94_69 = some [oo 108 (.binOp .add 3 (.tmp 14) (.const (.int .i64 1)) 3) 3,oo 14 (.move (.tmp 108)) 3] := by kernel_rfl
theorem e94_15 : c94_15 = .seq c94_16 c94_69 := by kernel_rfl
theorem e94_11 : c94_11 = .seq c94_12 c94_15 := by kernel_rfl
theorem e94_9 : c94_9 = .seq c94_10 c94_11 := by kernel_rfl
theorem e94_8 : c94_8 = .loop c94_9 := by kernel_rfl
theorem e94_7 : c94_7 = .block 0 c94_8 := by kernel_rfl
theorem e94_5 : c94_5 = .seq c94_6 c94_7 := by kernel_rfl
def c94_70 := sB c94_4
def c94_71 := sA c94_70
def c94_72 := sA c94_71
theorem e94_72 : aI c94_72 = some [oo 109 (.move (.tmp 0)) 43,oo 110 (.call ⟨.builtin .len,#[(.tmp 109)],#[43]⟩) 3,oo 111 (.move (.const (.int .i64 0))) 3] := by kernel_rfl
def c94_73 := sB c94_71
def c94_74 := bB c94_73
def c94_75 := bB c94_74
def c94_76 := sA c94_75
theorem e94_76 : aI c94_76 = some [oo 112 (.binOp .lss 3 (.tmp 111) (.tmp 110) 3) 0] := by kernel_rfl
def c94_77 := sB c94_75
def c94_78 := sA c94_77
def c94_79 := cT c94_78
theorem e94_79 : c94_79 = .skip := by kernel_rfl
def c94_80 := cE c94_78
theorem e94_80 : c94_80 = .exit 3 := by kernel_rfl
theorem e94_78 : c94_78 = .cond (.tmp 112) c94_79 c94_80 := by kernel_rfl
def c94_81 := sB c94_77
def c94_82 := sA c94_81
def c94_83 := bB c94_82
def c94_84 := sA c94_83
theorem e94_84 : aI c94_84 = some [oo 113 (.move (.tmp 111)) 3,oo 11 (.assign (.tmp 113)) 3] := by kernel_rfl
def c94_85 := sB c94_83
def c94_86 := sA c94_85
theorem e94_86 : aI c94_86 = some [oo 114 (.move (.tmp 11)) 3,oo 115 (.indexAddr 154 (.tmp 4) (.tmp 114)) 0,oo 116 (.fieldAddr 152 (.tmp 115) 0) 0,oo 117 (.load 4 (.tmp 116)) 4,oo 118 (.unOp .not 4 (.tmp 117)) 4] := by kernel_rfl
def c94_87 := sB c94_85
def c94_88 := cT c94_87
def c94_89 := sA c94_88
theorem e94_89 : aI c94_89 = some [oo 119 (.load 154 (.tmp 4)) 154,⟨none,none,.store 154 (.tmp 4) (.tmp 119),0⟩,oo 5 (.assign (.const (.bool false))) 4] := by kernel_rfl
def c94_90 := sB c94_88
theorem e94_90 : c94_90 = .ret := by kernel_rfl
theorem e94_88 : c94_88 = .seq c94_89 c94_90 := by kernel_rfl
def c94_91 := cE c94_87
theorem e94_91 : c94_91 = .skip := by kernel_rfl
theorem e94_87 : c94_87 = .cond (.tmp 118) c94_88 c94_91 := by kernel_rfl
theorem e94_85 : c94_85 = .seq c94_86 c94_87 := by kernel_rfl
theorem e94_83 : c94_83 = .seq c94_84 c94_85 := by kernel_rfl
theorem e94_82 : c94_82 = .block 4 c94_83 := by kernel_rfl
def c94_92 := sB c94_81
theorem e94_92 : aI c94_92 = some [oo 120 (.binOp .add 3 (.tmp 111) (.const (.int .i64 1)) 3) 3,oo 111 (.move (.tmp 120)) 3] := by kernel_rfl
theorem e94_81 : c94_81 = .seq c94_82 c94_92 := by kernel_rfl
theorem e94_77 : c94_77 = .seq c94_78 c94_81 := by kernel_rfl
theorem e94_75 : c94_75 = .seq c94_76 c94_77 := by kernel_rfl
theorem e94_74 : c94_74 = .loop c94_75 := by kernel_rfl
theorem e94_73 : c94_73 = .block 3 c94_74 := by kernel_rfl
theorem e94_71 : c94_71 = .seq c94_72 c94_73 := by kernel_rfl
def c94_93 := sB c94_70
def c94_94 := sA c94_93
theorem e94_94 : aI c94_94 = some [oo 121 (.load 154 (.tmp 4)) 154,⟨none,none,.store 154 (.tmp 4) (.tmp 121),0⟩,oo 5 (.assign (.const (.bool true))) 4] := by kernel_rfl
def c94_95 := sB c94_93
theorem e94_95 : c94_95 = .ret := by kernel_rfl
theorem e94_93 : c94_93 = .seq c94_94 c94_95 := by kernel_rfl
theorem e94_70 : c94_70 = .seq c94_71 c94_93 := by kernel_rfl
theorem e94_4 : c94_4 = .seq c94_5 c94_70 := by kernel_rfl
theorem e94_2 : c94_2 = .seq c94_3 c94_4 := by kernel_rfl
theorem e94_0 : c94_0 = .seq c94_1 c94_2 := by kernel_rfl
def c96_0 := cK Try.f96
def c96_1 := sA c96_0
theorem e96_1 : aI c96_1 = some [oo 2 (.alloc 31) 0] := by kernel_rfl
def c96_2 := sB c96_0
def c96_3 := sA c96_2
def c96_4 := bB c96_3
def c96_5 := sA c96_4
theorem e96_5 : aI c96_5 = some [oo 13 (.move (.tmp 0)) 92,oo 14 (.nilCheck (.tmp 13)) 0,oo 15 (.fieldAddr 96 (.tmp 14) 1) 0,oo 16 (.load 4 (.tmp 15)) 4,oo 12 (.assign (.tmp 16)) 4] := by kernel_rfl
def c96_6 := sB c96_4
def c96_7 := cT c96_6
theorem e96_7 : c96_7 = .skip := by kernel_rfl
def c96_8 := cE c96_6
def c96_9 := sA c96_8
theorem e96_9 : aI c96_9 = some [oo 18 (.move (.tmp 0)) 92,oo 19 (.call ⟨.value (.func 88),(List.toArray [(.tmp 18),(.const (.string ⟨#[45]⟩))]),#[92,9]⟩) 4,oo 17 (.assign (.tmp 19)) 4] := by kernel_rfl
def c96_10 := sB c96_8
def c96_11 := cT c96_10
theorem e96_11 : aI c96_11 = some [oo 20 (.move (.tmp 0)) 92,oo 21 (.call ⟨.value (.func 96),(List.toArray [(.tmp 20)]),#[92]⟩) 31,oo 22 (.buildSlice 29 1 (List.toArray [(0,(.tmp 21))])) 29,oo 23 (.build 31 (List.toArray [(0,(.const (.int .i64 6))),(4,(.tmp 22))])) 31,⟨none,none,.store 31 (.tmp 2) (.tmp 23),0⟩] := by kernel_rfl
def c96_12 := cE c96_10
def c96_13 := sA c96_12
theorem e96_13 : aI c96_13 = some [oo 25 (.move (.tmp 0)) 92,oo 26 (.call ⟨.value (.func 88),(List.toArray [(.tmp 25),(.const (.string ⟨#[40]⟩))]),#[92,9]⟩) 4,oo 24 (.assign (.tmp 26)) 4] := by kernel_rfl
def c96_14 := sB c96_12
def c96_15 := cT c96_14
def c96_16 := sA c96_15
theorem e96_16 : aI c96_16 = some [oo 27 (.move (.tmp 0)) 92,oo 28 (.call ⟨.value (.func 76),(List.toArray [(.tmp 27)]),#[92]⟩) 31,⟨none,none,.store 31 (.tmp 2) (.tmp 28),0⟩] := by kernel_rfl
def c96_17 := sB c96_15
theorem e96_17 : aI c96_17 = some [oo 29 (.move (.tmp 0)) 92,oo 30 (.call ⟨.value (.func 70),(List.toArray [(.tmp 29),(.const (.string ⟨#[41]⟩))]),#[92,9]⟩) 0] := by kernel_rfl
theorem e96_15 : c96_15 = .seq c96_16 c96_17 := by kernel_rfl
def c96_18 := cE c96_14
def c96_19 := sA c96_18
theorem e96_19 : aI c96_19 = some [oo 32 (.move (.tmp 0)) 92,oo 33 (.call ⟨.value (.func 88),(List.toArray [(.tmp 32),(.const (.string ⟨#[115,117,109]⟩))]),#[92,9]⟩) 4,oo 31 (.assign (.tmp 33)) 4] := by kernel_rfl
def c96_20 := sB c96_18
def c96_21 := cT c96_20
theorem e96_21 : aI c96_21 = some [oo 34 (.move (.tmp 0)) 92,oo 35 (.call ⟨.value (.func 100),(List.toArray [(.tmp 34)]),#[92]⟩) 31,⟨none,none,.store 31 (.tmp 2) (.tmp 35),0⟩] := by kernel_rfl
def c96_22 := cE c96_20
def c96_23 := sA c96_22
theorem e96_23 : aI c96_23 = some [oo 37 (.move (.tmp 0)) 92,oo 38 (.nilCheck (.tmp 37)) 0,oo 39 (.fieldAddr 96 (.tmp 38) 0) 0,oo 40 (.call ⟨.value (.func 69),(List.toArray [(.tmp 39)]),#[94]⟩) 118,oo 41 (.field 118 (.tmp 40) 0) 3,oo 42 (.binOp .eql 3 (.tmp 41) (.const (.int .i64 2)) 3) 4,oo 36 (.assign (.tmp 42)) 4] := by kernel_rfl
def c96_24 := sB c96_22
def c96_25 := cT c96_24
theorem e96_25 : aI c96_25 = some [oo 43 (.move (.tmp 0)) 92,oo 44 (.call ⟨.value (.func 74),(List.toArray [(.tmp 43),(.const (.int .i64 2))]),#[92,3]⟩) 118,oo 45 (.field 118 (.tmp 44) 2) 2,oo 46 (.build 31 (List.toArray [(0,(.const (.int .i64 1))),(1,(.tmp 45))])) 31,⟨none,none,.store 31 (.tmp 2) (.tmp 46),0⟩] := by kernel_rfl
def c96_26 := cE c96_24
def c96_27 := sA c96_26
theorem e96_27 : aI c96_27 = some [oo 3 (.move (.tmp 0)) 92,oo 4 (.call ⟨.value (.func 71),(List.toArray [(.tmp 3)]),#[92]⟩) 9,oo 5 (.fieldAddr 31 (.tmp 2) 0) 0,⟨none,none,.store 3 (.tmp 5) (.const (.int .i64 2)),0⟩,oo 6 (.fieldAddr 31 (.tmp 2) 2) 0,⟨none,none,.store 9 (.tmp 6) (.tmp 4),0⟩] := by kernel_rfl
def c96_28 := sB c96_26
theorem e96_28 : aI c96_28 = some [oo 7 (.move (.tmp 0)) 92,oo 8 (.move (.tmp 0)) 92,oo 9 (.makeFunc (.func 71) (List.toArray [(.tmp 8)]) (List.toArray [])) 126,oo 10 (.call ⟨.value (.func 75),(List.toArray [(.tmp 7),(.tmp 9)]),#[92,126]⟩) 28,oo 11 (.fieldAddr 31 (.tmp 2) 3) 0,⟨none,none,.store 28 (.tmp 11) (.tmp 10),0⟩] := by kernel_rfl
theorem e96_26 : c96_26 = .seq c96_27 c96_28 := by kernel_rfl
theorem e96_24 : c96_24 = .cond (.tmp 36) c96_25 c96_26 := by kernel_rfl
theorem e96_22 : c96_22 = .seq c96_23 c96_24 := by kernel_rfl
theorem e96_20 : c96_20 = .cond (.tmp 31) c96_21 c96_22 := by kernel_rfl
theorem e96_18 : c96_18 = .seq c96_19 c96_20 := by kernel_rfl
theorem e96_14 : c96_14 = .cond (.tmp 24) c96_15 c96_18 := by kernel_rfl
theorem e96_12 : c96_12 = .seq c96_13 c96_14 := by kernel_rfl
theorem e96_10 : c96_10 = .cond (.tmp 17) c96_11 c96_12 := by kernel_rfl
theorem e96_8 : c96_8 = .seq c96_9 c96_10 := by kernel_rfl
theorem e96_6 : c96_6 = .cond (.tmp 12) c96_7 c96_8 := by kernel_rfl
theorem e96_4 : c96_4 = .seq c96_5 c96_6 := by kernel_rfl
theorem e96_3 : c96_3 = .block 0 c96_4 := by kernel_rfl
def c96_29 := sB c96_2
def c96_30 := sA c96_29
theorem e96_30 : aI c96_30 = some [oo 47 (.load 31 (.tmp 2)) 31,⟨none,none,.store 31 (.tmp 2) (.tmp 47),0⟩] := by kernel_rfl
def c96_31 := sB c96_29
theorem e96_31 : c96_31 = .ret := by kernel_rfl
theorem e96_29 : c96_29 = .seq c96_30 c96_31 := by kernel_rfl
theorem e96_2 : c96_2 = .seq c96_3 c96_29 := by kernel_rfl
theorem e96_0 : c96_0 = .seq c96_1 c96_2 := by kernel_rfl
def c97_0 := cK Try.f97
def c97_1 := sA c97_0
theorem e97_1 : aI c97_1 = some [oo 2 (.assign (.const (.bool false))) 4] := by kernel_rfl
def c97_2 := sB c97_0
def c97_3 := sA c97_2
theorem e97_3 : aI c97_3 = some [oo 3 (.move (.tmp 0)) 3,oo 4 (.binOp .lss 3 (.tmp 3) (.const (.int .i64 0)) 3) 4,oo 2 (.assign (.tmp 4)) 4] := by kernel_rfl
def c97_4 := sB c97_2
theorem e97_4 : c97_4 = .ret := by kernel_rfl
theorem e97_2 : c97_2 = .seq c97_3 c97_4 := by kernel_rfl
theorem e97_0 : c97_0 = .seq c97_1 c97_2 := by kernel_rfl
def c98_0 := cK Try.f98
def c98_1 := sA c98_0
theorem e98_1 : aI c98_1 = some [oo 4 (.assign (.const (.bool false))) 4] := by kernel_rfl
def c98_2 := sB c98_0
def c98_3 := sA c98_2
theorem e98_3 : aI c98_3 = some [oo 5 (.move (.tmp 0)) 43,oo 6 (.move (.tmp 1)) 3,oo 7 (.call ⟨.value (.func 101),(List.toArray [(.tmp 5),(.tmp 6)]),#[43,3]⟩) 3,oo 8 (.binOp .geq 3 (.tmp 7) (.const (.int .i64 0)) 3) 4,oo 4 (.assign (.tmp 8)) 4] := by kernel_rfl
def c98_4 := sB c98_2
theorem e98_4 : c98_4 = .ret := by kernel_rfl
theorem e98_2 : c98_2 = .seq c98_3 c98_4 := by kernel_rfl
theorem e98_0 : c98_0 = .seq c98_1 c98_2 := by kernel_rfl
def c99_0 := cK Try.f99
def c99_1 := sA c99_0
theorem e99_1 : aI c99_1 = some [oo 4 (.assign (.const (.int .u64 0))) 158,oo 5 (.assign (.const (.int .u64 0))) 158] := by kernel_rfl
def c99_2 := sB c99_0
def c99_3 := sA c99_2
theorem e99_3 : aI c99_3 = some [oo 14 (.move (.tmp 0)) 158,oo 15 (.binOp .and 158 (.tmp 14) (.const (.int .u64 4294967295)) 158) 158,oo 6 (.assign (.tmp 15)) 158] := by kernel_rfl
def c99_4 := sB c99_2
def c99_5 := sA c99_4
theorem e99_5 : aI c99_5 = some [oo 16 (.move (.tmp 0)) 158,oo 17 (.binOp .shr 158 (.tmp 16) (.const (.int .u64 32)) 163) 158,oo 7 (.assign (.tmp 17)) 158] := by kernel_rfl
def c99_6 := sB c99_4
def c99_7 := sA c99_6
theorem e99_7 : aI c99_7 = some [oo 18 (.move (.tmp 1)) 158,oo 19 (.binOp .and 158 (.tmp 18) (.const (.int .u64 4294967295)) 158) 158,oo 8 (.assign (.tmp 19)) 158] := by kernel_rfl
def c99_8 := sB c99_6
def c99_9 := sA c99_8
theorem e99_9 : aI c99_9 = some [oo 20 (.move (.tmp 1)) 158,oo 21 (.binOp .shr 158 (.tmp 20) (.const (.int .u64 32)) 163) 158,oo 9 (.assign (.tmp 21)) 158] := by kernel_rfl
def c99_10 := sB c99_8
def c99_11 := sA c99_10
theorem e99_11 : aI c99_11 = some [oo 22 (.move (.tmp 6)) 158,oo 23 (.move (.tmp 8)) 158,oo 24 (.binOp .mul 158 (.tmp 22) (.tmp 23) 158) 158,oo 10 (.assign (.tmp 24)) 158] := by kernel_rfl
def c99_12 := sB c99_10
def c99_13 := sA c99_12
theorem e99_13 : aI c99_13 = some [oo 25 (.move (.tmp 7)) 158,oo 26 (.move (.tmp 8)) 158,oo 27 (.binOp .mul 158 (.tmp 25) (.tmp 26) 158) 158,oo 28 (.move (.tmp 10)) 158,oo 29 (.binOp .shr 158 (.tmp 28) (.const (.int .u64 32)) 163) 158,oo 30 (.binOp .add 158 (.tmp 27) (.tmp 29) 158) 158,oo 11 (.assign (.tmp 30)) 158] := by kernel_rfl
def c99_14 := sB c99_12
def c99_15 := sA c99_14
theorem e99_15 : aI c99_15 = some [oo 31 (.move (.tmp 11)) 158,oo 32 (.binOp .and 158 (.tmp 31) (.const (.int .u64 4294967295)) 158) 158,oo 12 (.assign (.tmp 32)) 158] := by kernel_rfl
def c99_16 := sB c99_14
def c99_17 := sA c99_16
theorem e99_17 : aI c99_17 = some [oo 33 (.move (.tmp 11)) 158,oo 34 (.binOp .shr 158 (.tmp 33) (.const (.int .u64 32)) 163) 158,oo 13 (.assign (.tmp 34)) 158] := by kernel_rfl
def c99_18 := sB c99_16
def c99_19 := sA c99_18
theorem e99_19 : aI c99_19 = some [oo 35 (.move (.tmp 12)) 158,oo 36 (.move (.tmp 6)) 158,oo 37 (.move (.tmp 9)) 158,oo 38 (.binOp .mul 158 (.tmp 36) (.tmp 37) 158) 158,oo 39 (.binOp .add 158 (.tmp 35) (.tmp 38) 158) 158,oo 12 (.assign (.tmp 39)) 158] := by kernel_rfl
def c99_20 := sB c99_18
def c99_21 := sA c99_20
theorem e99_21 : aI c99_21 = some [oo 40 (.move (.tmp 7)) 158,oo 41 (.move (.tmp 9)) 158,oo 42 (.binOp .mul 158 (.tmp 40) (.tmp 41) 158) 158,oo 43 (.move (.tmp 13)) 158,oo 44 (.binOp .add 158 (.tmp 42) (.tmp 43) 158) 158,oo 45 (.move (.tmp 12)) 158,oo 46 (.binOp .shr 158 (.tmp 45) (.const (.int .u64 32)) 163) 158,oo 47 (.binOp .add 158 (.tmp 44) (.tmp 46) 158) 158,oo 4 (.assign (.tmp 47)) 158] := by kernel_rfl
def c99_22 := sB c99_20
def c99_23 := sA c99_22
theorem e99_23 : aI c99_23 = some [oo 48 (.move (.tmp 0)) 158,oo 49 (.move (.tmp 1)) 158,oo 50 (.binOp .mul 158 (.tmp 48) (.tmp 49) 158) 158,oo 5 (.assign (.tmp 50)) 158] := by kernel_rfl
def c99_24 := sB c99_22
theorem e99_24 : c99_24 = .ret := by kernel_rfl
theorem e99_22 : c99_22 = .seq c99_23 c99_24 := by kernel_rfl
theorem e99_20 : c99_20 = .seq c99_21 c99_22 := by kernel_rfl
theorem e99_18 : c99_18 = .seq c99_19 c99_20 := by kernel_rfl
theorem e99_16 : c99_16 = .seq c99_17 c99_18 := by kernel_rfl
theorem e99_14 : c99_14 = .seq c99_15 c99_16 := by kernel_rfl
theorem e99_12 : c99_12 = .seq c99_13 c99_14 := by kernel_rfl
theorem e99_10 : c99_10 = .seq c99_11 c99_12 := by kernel_rfl
theorem e99_8 : c99_8 = .seq c99_9 c99_10 := by kernel_rfl
theorem e99_6 : c99_6 = .seq c99_7 c99_8 := by kernel_rfl
theorem e99_4 : c99_4 = .seq c99_5 c99_6 := by kernel_rfl
theorem e99_2 : c99_2 = .seq c99_3 c99_4 := by kernel_rfl
theorem e99_0 : c99_0 = .seq c99_1 c99_2 := by kernel_rfl
def c100_0 := cK Try.f100
def c100_1 := sA c100_0
theorem e100_1 : aI c100_1 = some [oo 2 (.alloc 31) 0] := by kernel_rfl
def c100_2 := sB c100_0
def c100_3 := sA c100_2
theorem e100_3 : aI c100_3 = some [oo 3 (.move (.tmp 0)) 92,oo 4 (.call ⟨.value (.func 70),(List.toArray [(.tmp 3),(.const (.string ⟨#[40]⟩))]),#[92,9]⟩) 0] := by kernel_rfl
def c100_4 := sB c100_2
def c100_5 := sA c100_4
theorem e100_5 : aI c100_5 = some [oo 5 (.move (.tmp 0)) 92,oo 6 (.call ⟨.value (.func 71),(List.toArray [(.tmp 5)]),#[92]⟩) 9,oo 7 (.fieldAddr 31 (.tmp 2) 0) 0,⟨none,none,.store 3 (.tmp 7) (.const (.int .i64 7)),0⟩,oo 8 (.fieldAddr 31 (.tmp 2) 2) 0,⟨none,none,.store 9 (.tmp 8) (.tmp 6),0⟩] := by kernel_rfl
def c100_6 := sB c100_4
def c100_7 := sA c100_6
theorem e100_7 : aI c100_7 = some [oo 9 (.move (.tmp 0)) 92,oo 10 (.call ⟨.value (.func 70),(List.toArray [(.tmp 9),(.const (.string ⟨#[44]⟩))]),#[92,9]⟩) 0] := by kernel_rfl
def c100_8 := sB c100_6
def c100_9 := sA c100_8
theorem e100_9 : aI c100_9 = some [oo 11 (.move (.tmp 0)) 92,oo 12 (.call ⟨.value (.func 76),(List.toArray [(.tmp 11)]),#[92]⟩) 31,oo 13 (.buildSlice 29 1 (List.toArray [(0,(.tmp 12))])) 29,oo 14 (.fieldAddr 31 (.tmp 2) 4) 0,⟨none,none,.store 29 (.tmp 14) (.tmp 13),0⟩] := by kernel_rfl
def c100_10 := sB c100_8
def c100_11 := sA c100_10
theorem e100_11 : aI c100_11 = some [oo 15 (.move (.tmp 0)) 92,oo 16 (.call ⟨.value (.func 70),(List.toArray [(.tmp 15),(.const (.string ⟨#[41]⟩))]),#[92,9]⟩) 0] := by kernel_rfl
def c100_12 := sB c100_10
def c100_13 := sA c100_12
theorem e100_13 : aI c100_13 = some [oo 17 (.load 31 (.tmp 2)) 31,⟨none,none,.store 31 (.tmp 2) (.tmp 17),0⟩] := by kernel_rfl
def c100_14 := sB c100_12
theorem e100_14 : c100_14 = .ret := by kernel_rfl
theorem e100_12 : c100_12 = .seq c100_13 c100_14 := by kernel_rfl
theorem e100_10 : c100_10 = .seq c100_11 c100_12 := by kernel_rfl
theorem e100_8 : c100_8 = .seq c100_9 c100_10 := by kernel_rfl
theorem e100_6 : c100_6 = .seq c100_7 c100_8 := by kernel_rfl
theorem e100_4 : c100_4 = .seq c100_5 c100_6 := by kernel_rfl
theorem e100_2 : c100_2 = .seq c100_3 c100_4 := by kernel_rfl
theorem e100_0 : c100_0 = .seq c100_1 c100_2 := by kernel_rfl
def c101_0 := cK Try.f101
def c101_1 := sA c101_0
theorem e101_1 : aI c101_1 = some [oo 4 (.assign (.const (.int .i64 0))) 3] := by kernel_rfl
def c101_2 := sB c101_0
def c101_3 := sA c101_2
def c101_4 := sA c101_3
theorem e101_4 : aI c101_4 = some [oo 6 (.move (.tmp 0)) 43,oo 7 (.call ⟨.builtin .len,#[(.tmp 6)],#[43]⟩) 3,oo 8 (.move (.const (.int .i64 0))) 3] := by kernel_rfl
def c101_5 := sB c101_3
def c101_6 := bB c101_5
def c101_7 := bB c101_6
def c101_8 := sA c101_7
theorem e101_8 : aI c101_8 = some [oo 9 (.binOp .lss 3 (.tmp 8) (.tmp 7) 3) 0] := by kernel_rfl
def c101_9 := sB c101_7
def c101_10 := sA c101_9
def c101_11 := cT c101_10
theorem e101_11 : c101_11 = .skip := by kernel_rfl
def c101_12 := cE c101_10
theorem e101_12 : c101_12 = .exit 0 := by kernel_rfl
theorem e101_10 : c101_10 = .cond (.tmp 9) c101_11 c101_12 := by kernel_rfl
def c101_13 := sB c101_9
def c101_14 := sA c101_13
def c101_15 := bB c101_14
def c101_16 := sA c101_15
theorem e101_16 : aI c101_16 = some [oo 10 (.move (.tmp 8)) 3,oo 5 (.assign (.tmp 10)) 3] := by kernel_rfl
def c101_17 := sB c101_15
def c101_18 := sA c101_17
theorem e101_18 : aI c101_18 = some [oo 11 (.move (.tmp 1)) 3,oo 12 (.move (.tmp 0)) 43,oo 13 (.move (.tmp 5)) 3,oo 14 (.indexAddr 43 (.tmp 12) (.tmp 13)) 0,oo 15 (.load 3 (.tmp 14)) 3,oo 16 (.binOp .eql 3 (.tmp 11) (.tmp 15) 3) 4] := by kernel_rfl
def c101_19 := sB c101_17
def c101_20 := cT c101_19
def c101_21 := sA c101_20
theorem e101_21 : aI c101_21 = some [oo 17 (.move (.tmp 5)) 3,oo 4 (.assign (.tmp 17)) 3] := by kernel_rfl
def c101_22 := sB c101_20
theorem e101_22 : c101_22 = .ret := by kernel_rfl
theorem e101_20 : c101_20 = .seq c101_21 c101_22 := by kernel_rfl
def c101_23 := cE c101_19
theorem e101_23 : c101_23 = .skip := by kernel_rfl
theorem e101_19 : c101_19 = .cond (.tmp 16) c101_20 c101_23 := by kernel_rfl
theorem e101_17 : c101_17 = .seq c101_18 c101_19 := by kernel_rfl
theorem e101_15 : c101_15 = .seq c101_16 c101_17 := by kernel_rfl
theorem e101_14 : c101_14 = .block 1 c101_15 := by kernel_rfl
def c101_24 := sB c101_13
theorem e101_24 : aI c101_24 = some [oo 18 (.binOp .add 3 (.tmp 8) (.const (.int .i64 1)) 3) 3,oo 8 (.move (.tmp 18)) 3] := by kernel_rfl
theorem e101_13 : c101_13 = .seq c101_14 c101_24 := by kernel_rfl
theorem e101_9 : c101_9 = .seq c101_10 c101_13 := by kernel_rfl
theorem e101_7 : c101_7 = .seq c101_8 c101_9 := by kernel_rfl
theorem e101_6 : c101_6 = .loop c101_7 := by kernel_rfl
theorem e101_5 : c101_5 = .block 0 c101_6 := by kernel_rfl
theorem e101_3 : c101_3 = .seq c101_4 c101_5 := by kernel_rfl
def c101_25 := sB c101_2
def c101_26 := sA c101_25
theorem e101_26 : aI c101_26 = some [oo 4 (.assign (.const (.int .i64 (-1)))) 3] := by kernel_rfl
def c101_27 := sB c101_25
theorem e101_27 : c101_27 = .ret := by kernel_rfl
theorem e101_25 : c101_25 = .seq c101_26 c101_27 := by kernel_rfl
theorem e101_2 : c101_2 = .seq c101_3 c101_25 := by kernel_rfl
theorem e101_0 : c101_0 = .seq c101_1 c101_2 := by kernel_rfl
end
structure GDecl where
  Name : ByteArray
  Shape : (List Int)
  Form : ByteArray
  Block : Int
structure GNode where
  Op : Int
  N : Int
  Name : ByteArray
  Index : (List ByteArray)
  L : (List GNode)
structure GStmt where
  Name : ByteArray
  Index : (List ByteArray)
  E : GNode
structure GProg where
  D : (List GDecl)
  S : (List GStmt)
structure GToken where
  Kind : Int
  S : ByteArray
  N : Int
structure GSpec where
  Kind : Int
  Mode : Int
  Size : Int
structure GT152 where
  met : Bool
  block : Int
structure GModes where
  e0 : GT152
  e1 : GT152
  e2 : GT152
  e3 : GT152
structure GDim where
  Name : ByteArray
  Size : Int
def m86 (p0 : ByteArray) (p1 : Int) : Option (Int) := some (ib p0 p1)
def m63 (p0 : ByteArray) (p1 : Int) : Option (Int) := (m86 p0 p1).bind fun r1 => some r1
def m62 (p0 : Int) : Option (Int) := jn (fun (_ : Unit) => some 0) fun j1 => if 97 ≤ (or8 p0 32) then (if (or8 p0 32) ≤ 122 then (some 1) else (jn (fun (_ : Unit) => j1 ()) fun j2 => if 48 ≤ p0 then (if p0 ≤ 57 then (some 2) else ((m63 (⟨#[43, 45, 42, 40, 41, 91, 93, 44, 61, 58]⟩ : ByteArray) p0).bind fun r1 => if 0 ≤ r1 then (some 3) else (if p0 = 32 then (some 4) else (if p0 = 9 then (some 4) else (if p0 = 10 then (some 5) else (if p0 = 35 then (some 6) else (j2 ()))))))) else ((m63 (⟨#[43, 45, 42, 40, 41, 91, 93, 44, 61, 58]⟩ : ByteArray) p0).bind fun r2 => if 0 ≤ r2 then (some 3) else (if p0 = 32 then (some 4) else (if p0 = 9 then (some 4) else (if p0 = 10 then (some 5) else (if p0 = 35 then (some 6) else (j2 ())))))))) else (jn (fun (_ : Unit) => j1 ()) fun j5 => if 48 ≤ p0 then (if p0 ≤ 57 then (some 2) else ((m63 (⟨#[43, 45, 42, 40, 41, 91, 93, 44, 61, 58]⟩ : ByteArray) p0).bind fun r3 => if 0 ≤ r3 then (some 3) else (if p0 = 32 then (some 4) else (if p0 = 9 then (some 4) else (if p0 = 10 then (some 5) else (if p0 = 35 then (some 6) else (j5 ()))))))) else ((m63 (⟨#[43, 45, 42, 40, 41, 91, 93, 44, 61, 58]⟩ : ByteArray) p0).bind fun r4 => if 0 ≤ r4 then (some 3) else (if p0 = 32 then (some 4) else (if p0 = 9 then (some 4) else (if p0 = 10 then (some 5) else (if p0 = 35 then (some 6) else (j5 ())))))))
def l64_0 : Nat → ByteArray → Int → Option (Int)
  | 0, _, _ => none
  | k + 1, p0, i1 => jn (fun (_ : Unit) => l64_0 k p0 (wr (i1 + 1))) fun j1 => if i1 < (p0.size : Int) then (if (0 : Int) ≤ i1 ∧ i1 < (p0.size : Int) then ((m62 (bt p0 i1)).bind fun r1 => if r1 = 1 then (j1 ()) else (if (0 : Int) ≤ i1 ∧ i1 < (p0.size : Int) then ((m62 (bt p0 i1)).bind fun r2 => if r2 = 2 then (j1 ()) else (some i1)) else none)) else none) else (some i1)
def m64 (k : Nat) (p0 : ByteArray) : Option (Int) := l64_0 k p0 0
def m48 (k : Nat) (p0 : ByteArray) : Option (Bool) := jn (fun (y1 : Bool) => some y1) fun j1 => if p0 = ByteArray.empty then (j1 false) else (if (p0.size : Int) ≤ 16 then (if (0 : Int) ≤ 0 ∧ 0 < (p0.size : Int) then ((m62 (bt p0 0)).bind fun r1 => if r1 = 1 then ((m64 k p0).bind fun r2 => j1 (decide (r2 = (p0.size : Int)))) else (j1 false)) else none) else (j1 false))
def l87_0 : Nat → ByteArray → Int → Int → Option (Int × Bool)
  | 0, _, _, _ => none
  | k + 1, p0, i1, i2 => if i2 < (p0.size : Int) then (if (0 : Int) ≤ i2 ∧ i2 < (p0.size : Int) then ((m62 (bt p0 i2)).bind fun r1 => if r1 = 2 then (if (0 : Int) ≤ i2 ∧ i2 < (p0.size : Int) then (l87_0 k p0 (wr ((wr ((10 : Int) * i1)) + (wr (wru8 ((bt p0 i2) - 48))))) (wr (i2 + 1))) else none) else (some (0, false))) else none) else (some (i1, true))
def m87 (k : Nat) (p0 : ByteArray) : Option (Int × Bool) := jn (fun (_ : Unit) => l87_0 k p0 0 0) fun j1 => if p0 = ByteArray.empty then (some (0, false)) else (if 18 < (p0.size : Int) then (some (0, false)) else (if 1 < (p0.size : Int) then (if (0 : Int) ≤ 0 ∧ 0 < (p0.size : Int) then (if (bt p0 0) = 48 then (some (0, false)) else (j1 ())) else none) else (j1 ())))
def m65 (k : Nat) (p0 : ByteArray) : Option (GToken × Bool) := (m48 k p0).bind fun r1 => jn (fun (y1 : Int) => some ((⟨y1, p0, 0⟩ : GToken), true)) fun j1 => if r1 = true then (j1 1) else (if (p0.size : Int) = 1 then (if (0 : Int) ≤ 0 ∧ 0 < (p0.size : Int) then ((m62 (bt p0 0)).bind fun r2 => if r2 = 3 then (j1 3) else ((m87 k p0).bind fun r3 => some ((⟨2, p0, r3.1⟩ : GToken), r3.2))) else none) else ((m87 k p0).bind fun r4 => some ((⟨2, p0, r4.1⟩ : GToken), r4.2)))
def l40_0 : Nat → ByteArray → (List GToken) → Bool → Int → Option ((List GToken) × Int × Int)
  | 0, _, _, _, _ => none
  | k + 1, p0, l1, b1, i1 => if i1 < (p0.size : Int) then (if (0 : Int) ≤ i1 ∧ i1 < (p0.size : Int) then ((m62 (bt p0 i1)).bind fun r1 => if r1 = 5 then (l40_0 k p0 l1 (decide (0 < (l1.length : Int))) (wr (i1 + 1))) else (if r1 = 4 then (l40_0 k p0 l1 b1 (wr (i1 + 1))) else (if r1 = 6 then (if (0 : Int) ≤ i1 ∧ i1 ≤ (p0.size : Int) ∧ (p0.size : Int) ≤ (p0.size : Int) then ((m63 (p0.extract (i1 : Int).toNat ((p0.size : Int) : Int).toNat) 10).bind fun r2 => if r2 < 0 then (if 4096 < (l1.length : Int) then (some (([] : (List GToken)), 0, 2)) else (some (l1, (p0.size : Int), 0))) else (l40_0 k p0 l1 b1 (wr (i1 + r2)))) else none) else (jn (fun (y1 : (List GToken)) (y2 : Int) => if (0 : Int) ≤ i1 ∧ i1 ≤ wr (i1 + y2) ∧ wr (i1 + y2) ≤ (p0.size : Int) then ((m65 k (p0.extract (i1 : Int).toNat (wr (i1 + y2) : Int).toNat)).bind fun r5 => if r5.2 = true then (jn (fun (y3 : (List GToken)) => if y3.length + ([r5.1] : List GToken).length ≤ apl then (l40_0 k p0 (y3 ++ ([r5.1] : List GToken)) false (wr (i1 + y2))) else none) fun j9 => if b1 = true then (if y1.length + ([(⟨4, ByteArray.empty, 0⟩ : GToken)] : List GToken).length ≤ apl then (j9 (y1 ++ ([(⟨4, ByteArray.empty, 0⟩ : GToken)] : List GToken))) else none) else (j9 y1)) else (some (([] : (List GToken)), i1, 6))) else none) fun j7 => if r1 = 1 then (if (0 : Int) ≤ i1 ∧ i1 ≤ (p0.size : Int) ∧ (p0.size : Int) ≤ (p0.size : Int) then ((m64 k (p0.extract (i1 : Int).toNat ((p0.size : Int) : Int).toNat)).bind fun r3 => j7 l1 r3) else none) else (if r1 = 2 then (if (0 : Int) ≤ i1 ∧ i1 ≤ (p0.size : Int) ∧ (p0.size : Int) ≤ (p0.size : Int) then ((m64 k (p0.extract (i1 : Int).toNat ((p0.size : Int) : Int).toNat)).bind fun r4 => j7 l1 r4) else none) else (j7 l1 1)))))) else none) else (if 4096 < (l1.length : Int) then (some (([] : (List GToken)), 0, 2)) else (some (l1, (p0.size : Int), 0)))
def m40 (k : Nat) (p0 : ByteArray) : Option ((List GToken) × Int × Int) := if 65536 < (p0.size : Int) then (some (([] : (List GToken)), 0, 2)) else (l40_0 k p0 ([] : (List GToken)) false 0)
def m67 (p0 : GToken) : Option (Bool) := some (decide (p0.Kind = 4))
def l66_0 : Nat → Nat → (List GToken) → Option (Int)
  | 0, _, _ => none
  | _ + 1, _, [] => some (-1)
  | k + 1, j1, x1 :: xs2 => (m67 x1).bind fun r1 => if r1 = true then (some (j1 : Int)) else (l66_0 k (j1 + 1) xs2)
def m66 (k : Nat) (p0 : (List GToken)) : Option (Int) := l66_0 k 0 p0
def l41_0 : Nat → (List GToken) → (List (List GToken)) → Option ((List (List GToken)))
  | 0, _, _ => none
  | k + 1, l1, l2 => if 0 < (l1.length : Int) then ((m66 k l1).bind fun r1 => if r1 < 0 then ((cl l1).bind fun r2 => if l2.length + ([r2] : List (List GToken)).length ≤ apl then (some (l2 ++ ([r2] : List (List GToken)))) else none) else (if (0 : Int) ≤ 0 ∧ 0 ≤ r1 ∧ r1 ≤ (l1.length : Int) then ((cl ((l1.take (r1 : Int).toNat).drop (0 : Int).toNat)).bind fun r3 => if l2.length + ([r3] : List (List GToken)).length ≤ apl then (if (0 : Int) ≤ wr (r1 + 1) ∧ wr (r1 + 1) ≤ (l1.length : Int) ∧ (l1.length : Int) ≤ (l1.length : Int) then (jn (fun (y1 : (List (List GToken))) => l41_0 k ((l1.take ((l1.length : Int) : Int).toNat).drop (wr (r1 + 1) : Int).toNat) y1) fun j3 => if (((l1.take ((l1.length : Int) : Int).toNat).drop (wr (r1 + 1) : Int).toNat).length : Int) = 0 then (if (l2 ++ ([r3] : List (List GToken))).length + ([([] : (List GToken))] : List (List GToken)).length ≤ apl then (j3 ((l2 ++ ([r3] : List (List GToken))) ++ ([([] : (List GToken))] : List (List GToken)))) else none) else (j3 (l2 ++ ([r3] : List (List GToken))))) else none) else none) else none)) else (some l2)
def m41 (k : Nat) (p0 : (List GToken)) : Option ((List (List GToken))) := l41_0 k p0 ([] : (List (List GToken)))
def m69 (cJ : (List GToken)) (cW : Bool) : Option (GToken × (List GToken) × Bool) := jn (fun (y1 : Int) (y2 : ByteArray) (y3 : Int) => some ((⟨y1, y2, y3⟩ : GToken), cJ, cW)) fun j1 => if 0 < (cJ.length : Int) then ((idx cJ 0).bind fun x1 => j1 x1.Kind x1.S x1.N) else (j1 0 ByteArray.empty 0)
def m42 (cJ : (List GToken)) (cW : Bool) (p1 : ByteArray) : Option (Bool × (List GToken) × Bool) := (m69 cJ cW).bind fun r1 => jn (fun (y1 : Bool) => some (y1, r1.2.1, r1.2.2)) fun j1 => if r1.2.2 = true then (j1 false) else (if r1.1.S = p1 then (if r1.1.Kind = 3 then (j1 true) else (j1 (decide (r1.1.Kind = 1)))) else (j1 false))
def m88 (cJ : (List GToken)) (cW : Bool) (p1 : ByteArray) : Option (Bool × (List GToken) × Bool) := (m42 cJ cW p1).bind fun r1 => jn (fun (y1 : (List GToken)) => some (r1.1, y1, r1.2.2)) fun j1 => if r1.1 = true then (if (0 : Int) ≤ 1 ∧ 1 ≤ (r1.2.1.length : Int) ∧ (r1.2.1.length : Int) ≤ (r1.2.1.length : Int) then (j1 ((r1.2.1.take ((r1.2.1.length : Int) : Int).toNat).drop (1 : Int).toNat)) else none) else (j1 r1.2.1)
def m70 (cJ : (List GToken)) (cW : Bool) (p1 : ByteArray) : Option ((List GToken) × Bool) := (m88 cJ cW p1).bind fun r1 => jn (fun (y1 : Bool) => some (r1.2.1, y1)) fun j1 => if r1.1 = true then (j1 r1.2.2) else (j1 true)
def m74 (cJ : (List GToken)) (cW : Bool) (p1 : Int) : Option (GToken × (List GToken) × Bool) := (m69 cJ cW).bind fun r1 => if r1.2.2 = true then (some ((⟨0, ByteArray.empty, 0⟩ : GToken), r1.2.1, true)) else (if r1.1.Kind = p1 then (if (0 : Int) ≤ 1 ∧ 1 ≤ (r1.2.1.length : Int) ∧ (r1.2.1.length : Int) ≤ (r1.2.1.length : Int) then (some (r1.1, (r1.2.1.take ((r1.2.1.length : Int) : Int).toNat).drop (1 : Int).toNat, r1.2.2)) else none) else (some ((⟨0, ByteArray.empty, 0⟩ : GToken), r1.2.1, true)))
def m46 (k : Nat) (p0 : ByteArray) : Option (Bool) := jn (fun (y1 : Bool) => some y1) fun j1 => (m48 k p0).bind fun r1 => if r1 = true then (if p0 = (⟨#[115, 117, 109]⟩ : ByteArray) then (j1 false) else (j1 (!decide (p0 = (⟨#[116, 101, 110, 115, 111, 114]⟩ : ByteArray))))) else (j1 false)
def m71 (k : Nat) (cJ : (List GToken)) (cW : Bool) : Option (ByteArray × (List GToken) × Bool) := (m74 cJ cW 1).bind fun r1 => (m46 k r1.1.S).bind fun r2 => jn (fun (y1 : Bool) => some (r1.1.S, r1.2.1, y1)) fun j1 => if r2 = true then (j1 r1.2.2) else (j1 true)
def m73 (cJ : (List GToken)) (cW : Bool) : Option (Int × (List GToken) × Bool) := (m74 cJ cW 2).bind fun r1 => some (r1.1.N, r1.2.1, r1.2.2)
def l72_0 : Nat → (List GToken) → Bool → (List Int) → Bool → Option ((List Int) × (List GToken) × Bool)
  | 0, _, _, _, _ => none
  | k + 1, l1, b1, l2, b2 => if b2 = true then (if b1 = true then ((m70 l1 b1 (⟨#[93]⟩ : ByteArray)).bind fun r3 => some (l2, r3.1, r3.2)) else ((m73 l1 b1).bind fun r5 => if l2.length + ([r5.1] : List Int).length ≤ apl then ((m88 r5.2.1 r5.2.2 (⟨#[44]⟩ : ByteArray)).bind fun r6 => l72_0 k r6.2.1 r6.2.2 (l2 ++ ([r5.1] : List Int)) r6.1) else none)) else ((m70 l1 b1 (⟨#[93]⟩ : ByteArray)).bind fun r4 => some (l2, r4.1, r4.2))
def m72 (k : Nat) (cJ : (List GToken)) (cW : Bool) : Option ((List Int) × (List GToken) × Bool) := (m70 cJ cW (⟨#[91]⟩ : ByteArray)).bind fun r1 => (m88 r1.1 r1.2 (⟨#[93]⟩ : ByteArray)).bind fun r2 => if r2.1 = true then (some (([] : (List Int)), r2.2.1, r2.2.2)) else (l72_0 k r2.2.1 r2.2.2 ([] : (List Int)) true)
def m43 (k : Nat) (cJ : (List GToken)) (cW : Bool) : Option (GDecl × (List GToken) × Bool) := (m70 cJ cW (⟨#[116, 101, 110, 115, 111, 114]⟩ : ByteArray)).bind fun r1 => (m71 k r1.1 r1.2).bind fun r2 => (m72 k r2.2.1 r2.2.2).bind fun r3 => (m70 r3.2.1 r3.2.2 (⟨#[58]⟩ : ByteArray)).bind fun r4 => (m74 r4.1 r4.2 1).bind fun r5 => (m69 r5.2.1 r5.2.2).bind fun r6 => jn (fun (y1 : (List GToken)) (y2 : Bool) (y3 : Int) => some ((⟨r2.1, r3.1, r5.1.S, y3⟩ : GDecl), y1, y2)) fun j1 => if r6.1.Kind = 2 then ((m73 r6.2.1 r6.2.2).bind fun r7 => j1 r7.2.1 r7.2.2 r7.1) else (j1 r6.2.1 r6.2.2 0)
def l75_0 : Nat → (List GToken) → Bool → (List ByteArray) → Bool → Option ((List ByteArray) × (List GToken) × Bool)
  | 0, _, _, _, _ => none
  | k + 1, l1, b1, l2, b2 => if b2 = true then (if b1 = true then ((m70 l1 b1 (⟨#[93]⟩ : ByteArray)).bind fun r3 => some (l2, r3.1, r3.2)) else ((m71 k l1 b1).bind fun r5 => if l2.length + ([r5.1] : List ByteArray).length ≤ apl then ((m88 r5.2.1 r5.2.2 (⟨#[44]⟩ : ByteArray)).bind fun r6 => l75_0 k r6.2.1 r6.2.2 (l2 ++ ([r5.1] : List ByteArray)) r6.1) else none)) else ((m70 l1 b1 (⟨#[93]⟩ : ByteArray)).bind fun r4 => some (l2, r4.1, r4.2))
def m75 (k : Nat) (cJ : (List GToken)) (cW : Bool) : Option ((List ByteArray) × (List GToken) × Bool) := (m70 cJ cW (⟨#[91]⟩ : ByteArray)).bind fun r1 => (m88 r1.1 r1.2 (⟨#[93]⟩ : ByteArray)).bind fun r2 => if r2.1 = true then (some (([] : (List ByteArray)), r2.2.1, r2.2.2)) else (l75_0 k r2.2.1 r2.2.2 ([] : (List ByteArray)) true)
mutual
def m100 : Nat → (List GToken) → Bool → Option (GNode × (List GToken) × Bool)
  | 0, _, _ => none
  | k + 1, cJ, cW => (m70 cJ cW (⟨#[40]⟩ : ByteArray)).bind fun r1 => (m71 k r1.1 r1.2).bind fun r2 => (m70 r2.2.1 r2.2.2 (⟨#[44]⟩ : ByteArray)).bind fun r3 => (m76 k r3.1 r3.2).bind fun r4 => (m70 r4.2.1 r4.2.2 (⟨#[41]⟩ : ByteArray)).bind fun r5 => some ((⟨7, 0, r2.1, [], ([r4.1] : List GNode)⟩ : GNode), r5.1, r5.2)
def m76 : Nat → (List GToken) → Bool → Option (GNode × (List GToken) × Bool)
  | 0, _, _ => none
  | k + 1, cJ, cW => (m89 k cJ cW (cC (cC ([] : (List (ByteArray × Int))) (⟨#[43]⟩ : ByteArray) 3) (⟨#[45]⟩ : ByteArray) 4)).bind fun r1 => some (r1.1, r1.2.1, r1.2.2)
def m89 : Nat → (List GToken) → Bool → (List (ByteArray × Int)) → Option (GNode × (List GToken) × Bool)
  | 0, _, _, _ => none
  | k + 1, cJ, cW, p2 => (m90 k cJ cW).bind fun r1 => l89_0 k p2 r1.2.1 r1.2.2 r1.1.Op r1.1.N r1.1.Name r1.1.Index r1.1.L
def l89_0 : Nat → (List (ByteArray × Int)) → (List GToken) → Bool → Int → Int → ByteArray → (List ByteArray) → (List GNode) → Option (GNode × (List GToken) × Bool)
  | 0, _, _, _, _, _, _, _, _ => none
  | k + 1, p2, l1, b3, i1, i2, str1, l2, l3 => if b3 = true then (some ((⟨i1, i2, str1, l2, l3⟩ : GNode), l1, b3)) else ((m69 l1 b3).bind fun r2 => if ((dV p2 r2.1.S).getD 0) = 0 then (some ((⟨i1, i2, str1, l2, l3⟩ : GNode), r2.2.1, r2.2.2)) else ((m69 r2.2.1 r2.2.2).bind fun r3 => if r3.1.Kind = 3 then (if (0 : Int) ≤ 1 ∧ 1 ≤ (r3.2.1.length : Int) ∧ (r3.2.1.length : Int) ≤ (r3.2.1.length : Int) then ((m90 k ((r3.2.1.take ((r3.2.1.length : Int) : Int).toNat).drop (1 : Int).toNat) r3.2.2).bind fun bU => l89_0 k p2 bU.2.1 bU.2.2 ((dV p2 r2.1.S).getD 0) 0 ByteArray.empty ([] : (List ByteArray)) ([(⟨i1, i2, str1, l2, l3⟩ : GNode), bU.1] : List GNode)) else none) else (some ((⟨i1, i2, str1, l2, l3⟩ : GNode), r3.2.1, r3.2.2))))
def m90 : Nat → (List GToken) → Bool → Option (GNode × (List GToken) × Bool)
  | 0, _, _ => none
  | k + 1, cJ, cW => (m89_1 k cJ cW (cC ([] : (List (ByteArray × Int))) (⟨#[42]⟩ : ByteArray) 5)).bind fun r1 => some (r1.1, r1.2.1, r1.2.2)
def m89_1 : Nat → (List GToken) → Bool → (List (ByteArray × Int)) → Option (GNode × (List GToken) × Bool)
  | 0, _, _, _ => none
  | k + 1, cJ, cW, p2 => (m96 k cJ cW).bind fun r1 => l89_1_0 k p2 r1.2.1 r1.2.2 r1.1.Op r1.1.N r1.1.Name r1.1.Index r1.1.L
def l89_1_0 : Nat → (List (ByteArray × Int)) → (List GToken) → Bool → Int → Int → ByteArray → (List ByteArray) → (List GNode) → Option (GNode × (List GToken) × Bool)
  | 0, _, _, _, _, _, _, _, _ => none
  | k + 1, p2, l1, b3, i1, i2, str1, l2, l3 => if b3 = true then (some ((⟨i1, i2, str1, l2, l3⟩ : GNode), l1, b3)) else ((m69 l1 b3).bind fun r2 => if ((dV p2 r2.1.S).getD 0) = 0 then (some ((⟨i1, i2, str1, l2, l3⟩ : GNode), r2.2.1, r2.2.2)) else ((m69 r2.2.1 r2.2.2).bind fun r3 => if r3.1.Kind = 3 then (if (0 : Int) ≤ 1 ∧ 1 ≤ (r3.2.1.length : Int) ∧ (r3.2.1.length : Int) ≤ (r3.2.1.length : Int) then ((m96 k ((r3.2.1.take ((r3.2.1.length : Int) : Int).toNat).drop (1 : Int).toNat) r3.2.2).bind fun bU => l89_1_0 k p2 bU.2.1 bU.2.2 ((dV p2 r2.1.S).getD 0) 0 ByteArray.empty ([] : (List ByteArray)) ([(⟨i1, i2, str1, l2, l3⟩ : GNode), bU.1] : List GNode)) else none) else (some ((⟨i1, i2, str1, l2, l3⟩ : GNode), r3.2.1, r3.2.2))))
def m96 : Nat → (List GToken) → Bool → Option (GNode × (List GToken) × Bool)
  | 0, _, _ => none
  | k + 1, cJ, cW => jn (fun (y1 : (List GToken)) (y2 : Bool) (y3 : Int) (y4 : Int) (y5 : ByteArray) (y6 : (List ByteArray)) (y7 : (List GNode)) => some ((⟨y3, y4, y5, y6, y7⟩ : GNode), y1, y2)) fun j1 => if cW = true then (j1 cJ cW 0 0 ByteArray.empty ([] : (List ByteArray)) ([] : (List GNode))) else ((m88 cJ cW (⟨#[45]⟩ : ByteArray)).bind fun r1 => if r1.1 = true then ((m96 k r1.2.1 r1.2.2).bind fun r2 => j1 r2.2.1 r2.2.2 6 0 ByteArray.empty ([] : (List ByteArray)) ([r2.1] : List GNode)) else ((m88 r1.2.1 r1.2.2 (⟨#[40]⟩ : ByteArray)).bind fun r3 => if r3.1 = true then ((m76 k r3.2.1 r3.2.2).bind fun r4 => (m70 r4.2.1 r4.2.2 (⟨#[41]⟩ : ByteArray)).bind fun r5 => j1 r5.1 r5.2 r4.1.Op r4.1.N r4.1.Name r4.1.Index r4.1.L) else ((m88 r3.2.1 r3.2.2 (⟨#[115, 117, 109]⟩ : ByteArray)).bind fun r6 => if r6.1 = true then ((m100 k r6.2.1 r6.2.2).bind fun r7 => j1 r7.2.1 r7.2.2 r7.1.Op r7.1.N r7.1.Name r7.1.Index r7.1.L) else ((m69 r6.2.1 r6.2.2).bind fun r8 => if r8.1.Kind = 2 then ((m74 r8.2.1 r8.2.2 2).bind fun r9 => j1 r9.2.1 r9.2.2 1 r9.1.N ByteArray.empty ([] : (List ByteArray)) ([] : (List GNode))) else ((m71 k r8.2.1 r8.2.2).bind fun r10 => (m75 k r10.2.1 r10.2.2).bind fun r11 => j1 r11.2.1 r11.2.2 2 0 r10.1 r11.1 ([] : (List GNode)))))))
end
def m44 (k : Nat) (cJ : (List GToken)) (cW : Bool) : Option (GStmt × (List GToken) × Bool) := (m71 k cJ cW).bind fun r1 => (m75 k r1.2.1 r1.2.2).bind fun r2 => (m70 r2.2.1 r2.2.2 (⟨#[61]⟩ : ByteArray)).bind fun r3 => (m76 k r3.1 r3.2).bind fun r4 => some ((⟨r1.1, r2.1, (⟨r4.1.Op, r4.1.N, r4.1.Name, r4.1.Index, r4.1.L⟩ : GNode)⟩ : GStmt), r4.2.1, r4.2.2)
def m45 (cJ : (List GToken)) (cW : Bool) : Option (Bool × (List GToken) × Bool) := jn (fun (y1 : Bool) => some (y1, cJ, cW)) fun j1 => if cW = true then (j1 false) else (j1 (decide ((cJ.length : Int) = 0)))
def m80 (k : Nat) (p0 : ByteArray) : Option (Bool) := (m46 k p0).bind fun r1 => some (!r1)
def l92_0 : Nat → Nat → (List ByteArray) → Option (Int)
  | 0, _, _ => none
  | _ + 1, _, [] => some (-1)
  | k + 1, j1, x1 :: xs2 => (m80 k x1).bind fun r1 => if r1 = true then (some (j1 : Int)) else (l92_0 k (j1 + 1) xs2)
def m92 (k : Nat) (p0 : (List ByteArray)) : Option (Int) := l92_0 k 0 p0
def m79 (k : Nat) (p0 : (List ByteArray)) : Option (Bool) := (m92 k p0).bind fun r1 => some (decide (0 ≤ r1))
def m49 (k : Nat) (p0 : (List ByteArray)) : Option (Bool) := jn (fun (y1 : Bool) => some y1) fun j1 => if (p0.length : Int) ≤ 4 then ((m79 k p0).bind fun r1 => j1 (!r1)) else (j1 false)
def m61 (p0 : Int) : Option (Int) := if p0 = 1 then (some 0) else (if p0 = 2 then (some 0) else (if p0 = 6 then (some 1) else (if p0 = 7 then (some 1) else (if p0 = 3 then (some 2) else (if p0 = 4 then (some 2) else (if p0 = 5 then (some 2) else (some (-1))))))))
mutual
def m38 : Nat → GNode → Int → Option (Int)
  | 0, _, _ => none
  | k + 1, p0, p1 => jn (fun (y1 : Bool) => jn (fun (y5 : Bool) (y6 : Int) (y7 : ByteArray) (y8 : (List ByteArray)) => if y5 = true then (if y6 = 0 then (if y7 = ByteArray.empty then (if 0 < (y8.length : Int) then (some (-1)) else (l38_0 k p1 1 p0.L)) else (some (-1))) else (some (-1))) else (some (-1))) fun j2 => if p0.Op = 1 then (jn (fun (y2 : Bool) => j2 y2 0 p0.Name p0.Index) fun j3 => if y1 = true then (if 0 ≤ p0.N then (j3 (decide (p0.N < 1000000000000000000))) else (j3 false)) else (j3 false)) else (if p0.Op = 2 then (jn (fun (y3 : Bool) => j2 y3 p0.N ByteArray.empty ([] : (List ByteArray))) fun j4 => if y1 = true then ((m46 k p0.Name).bind fun r1 => if r1 = true then ((m49 k p0.Index).bind fun r2 => j4 r2) else (j4 false)) else (j4 false)) else (if p0.Op = 7 then (jn (fun (y4 : Bool) => j2 y4 p0.N ByteArray.empty p0.Index) fun j5 => if y1 = true then ((m46 k p0.Name).bind fun r3 => j5 r3) else (j5 false)) else (j2 y1 p0.N p0.Name p0.Index)))) fun j1 => if 0 < p1 then ((m61 p0.Op).bind fun rd1_5_1 => j1 (decide (rd1_5_1 = (p0.L.length : Int)))) else (j1 false)
def l38_0 : Nat → Int → Int → (List GNode) → Option (Int)
  | 0, _, _, _ => none
  | _ + 1, _, i1, [] => some i1
  | k + 1, p1, i1, x1 :: xs2 => (m38 k x1 (wr (p1 - 1))).bind fun r4 => if r4 < 0 then (some (-1)) else (l38_0 k p1 (wr (i1 + r4)) xs2)
end
def m21 (k : Nat) (p0 : GNode) : Option (Bool) := (m38 k p0 16).bind fun r1 => jn (fun (y1 : Bool) => some y1) fun j1 => if 0 < r1 then (j1 (decide (r1 ≤ 120))) else (j1 false)
def m78 (p0 : Int) : Option (Bool) := jn (fun (y1 : Bool) => some y1) fun j1 => if p0 < 0 then (j1 true) else (j1 (decide (1000000000000000000 ≤ p0)))
def l91_0 : Nat → Nat → (List Int) → Option (Int)
  | 0, _, _ => none
  | _ + 1, _, [] => some (-1)
  | k + 1, j1, x1 :: xs2 => (m78 x1).bind fun r1 => if r1 = true then (some (j1 : Int)) else (l91_0 k (j1 + 1) xs2)
def m91 (k : Nat) (p0 : (List Int)) : Option (Int) := l91_0 k 0 p0
def m77 (k : Nat) (p0 : (List Int)) : Option (Bool) := (m91 k p0).bind fun r1 => some (decide (0 ≤ r1))
def m47 (k : Nat) (p0 : (List Int)) : Option (Bool) := (m77 k p0).bind fun r1 => some (!r1)
mutual
def l26_0 : Nat → GProg → Bool → (List GDecl) → Option (Int)
  | 0, _, _, _ => none
  | k + 1, p0, b2, [] => l26_1 k b2 p0.S
  | k + 1, p0, b2, x1 :: xs2 => jn (fun (y3 : Bool) => l26_0 k p0 y3 xs2) fun j6 => if b2 = true then ((m46 k x1.Name).bind fun r4 => if r4 = true then (if (x1.Shape.length : Int) ≤ 4 then ((m47 k x1.Shape).bind fun r5 => if r5 = true then ((m47 k ([x1.Block] : List Int)).bind fun r6 => if r6 = true then ((m48 k x1.Form).bind fun r7 => j6 r7) else (j6 false)) else (j6 false)) else (j6 false)) else (j6 false)) else (j6 false)
def l26_1 : Nat → Bool → (List GStmt) → Option (Int)
  | 0, _, _ => none
  | _ + 1, b3, [] => if b3 = true then (some 0) else (some 1)
  | k + 1, b3, x2 :: xs4 => jn (fun (y2 : Bool) => l26_1 k y2 xs4) fun j5 => if b3 = true then ((m46 k x2.Name).bind fun r1 => if r1 = true then ((m49 k x2.Index).bind fun r2 => if r2 = true then ((m21 k x2.E).bind fun r3 => j5 r3) else (j5 false)) else (j5 false)) else (j5 false)
end
def m26 (k : Nat) (p0 : GProg) : Option (Int) := jn (fun (y1 : Bool) => l26_0 k p0 y1 p0.D) fun j1 => if (p0.D.length : Int) ≤ 32 then (j1 (decide ((p0.S.length : Int) ≤ 32))) else (j1 false)
def l24_0 : Nat → (List (List GToken)) → Nat → (List GDecl) → (List GStmt) → (List (List GToken)) → Option (GProg × Int × Int)
  | 0, _, _, _, _, _ => none
  | _ + 1, r2, _, l1, l2, [] => some ((⟨l1, l2⟩ : GProg), (r2.length : Int), 0)
  | k + 1, r2, j2, l1, l2, x1 :: xs2 => (m42 x1 false (⟨#[116, 101, 110, 115, 111, 114]⟩ : ByteArray)).bind fun r3 => jn (fun (y1 : Bool) (y2 : (List GDecl)) (y3 : (List GStmt)) (y4 : (List GToken)) (y5 : Bool) => (m45 y4 y5).bind fun r4 => if r4.1 = true then (if y1 = true then (some ((⟨[], []⟩ : GProg), (j2 : Int), 6)) else ((m26 k (⟨y2, y3⟩ : GProg)).bind fun r5 => if r5 = 0 then (l24_0 k r2 (j2 + 1) y2 y3 xs2) else (some ((⟨[], []⟩ : GProg), (j2 : Int), 2)))) else (some ((⟨[], []⟩ : GProg), (j2 : Int), 6))) fun j3 => if r3.1 = true then ((m43 k r3.2.1 r3.2.2).bind fun bU => if l1.length + ([bU.1] : List GDecl).length ≤ apl then (j3 (decide (0 < (l2.length : Int))) (l1 ++ ([bU.1] : List GDecl)) l2 bU.2.1 bU.2.2) else none) else ((m44 k r3.2.1 r3.2.2).bind fun dD => if l2.length + ([dD.1] : List GStmt).length ≤ apl then (j3 false l1 (l2 ++ ([dD.1] : List GStmt)) dD.2.1 dD.2.2) else none)
def m24 (k : Nat) (p0 : ByteArray) : Option (GProg × Int × Int) := (m40 k p0).bind fun r1 => if r1.2.2 = 0 then ((m41 k r1.1).bind fun r2 => l24_0 k r2 0 ([] : (List GDecl)) ([] : (List GStmt)) r2) else (some ((⟨[], []⟩ : GProg), r1.2.1, r1.2.2))
def l50_0 : Nat → ByteArray → Nat → (List ByteArray) → Option (Int)
  | 0, _, _, _ => none
  | _ + 1, _, _, [] => some (-1)
  | k + 1, p1, j1, x1 :: xs2 => if p1 = x1 then (some (j1 : Int)) else (l50_0 k p1 (j1 + 1) xs2)
def m50 (k : Nat) (p0 : (List ByteArray)) (p1 : ByteArray) : Option (Int) := l50_0 k p1 0 p0
def m28 (k : Nat) (p0 : (List ByteArray)) (p1 : ByteArray) : Option (Bool) := (m50 k p0 p1).bind fun r1 => some (decide (0 ≤ r1))
mutual
def m35 : Nat → GNode → (List ByteArray) → (List ByteArray) → Option ((List ByteArray))
  | 0, _, _, _ => none
  | k + 1, p0, p1, p2 => if p0.Op = 2 then (l35_0 k p1 p2 p0.Index) else (jn (fun (y4 : (List ByteArray)) (y5 : (List ByteArray)) => l35_1 k y4 y5 p0.L) fun j4 => if p0.Op = 7 then (jn (fun (y2 : (List ByteArray)) (y3 : (List ByteArray)) => j4 y2 y3) fun j5 => (cl p1).bind fun rd1_1_1 => if rd1_1_1.length + ([p0.Name] : List ByteArray).length ≤ apl then (j5 (rd1_1_1 ++ ([p0.Name] : List ByteArray)) p2) else none) else (j4 p1 p2))
def l35_0 : Nat → (List ByteArray) → (List ByteArray) → (List ByteArray) → Option ((List ByteArray))
  | 0, _, _, _ => none
  | _ + 1, _, l1, [] => some l1
  | k + 1, p1, l1, x1 :: xs2 => jn (fun (y1 : (List ByteArray)) => l35_0 k p1 y1 xs2) fun j3 => (m28 k p1 x1).bind fun r1 => if r1 = true then (j3 l1) else ((m28 k l1 x1).bind fun r2 => if r2 = true then (j3 l1) else (if l1.length + ([x1] : List ByteArray).length ≤ apl then (j3 (l1 ++ ([x1] : List ByteArray))) else none))
def l35_1 : Nat → (List ByteArray) → (List ByteArray) → (List GNode) → Option ((List ByteArray))
  | 0, _, _, _ => none
  | _ + 1, _, l2, [] => some l2
  | k + 1, y4, l2, x2 :: xs4 => (m35 k x2 y4 l2).bind fun r3 => l35_1 k y4 r3 xs4
end
def m18 (k : Nat) (p0 : GNode) : Option ((List ByteArray)) := (m35 k p0 ([] : (List ByteArray)) ([] : (List ByteArray))).bind fun r1 => some r1
mutual
def m34 : Nat → GNode → (List ByteArray) → Option (GNode)
  | 0, _, _ => none
  | k + 1, p0, p1 => if p0.Op = 3 then ((cl p0.L).bind fun r1 => l34_0 k p0 p1 r1 r1 0) else (if p0.Op = 4 then ((cl p0.L).bind fun r2 => l34_1 k p0 p1 r2 r2 0) else (if p0.Op = 6 then ((cl p0.L).bind fun r3 => l34_2 k p0 p1 r3 r3 0) else ((m18 k p0).bind fun r4 => (foldO (fun (s4 : Int × Int × ByteArray × (List ByteArray) × (List GNode)) (x1 : ByteArray) => (m28 k p1 x1).bind fun r5 => jn (fun (y1 : Int) (y2 : Int) (y3 : ByteArray) (y4 : (List ByteArray)) (y5 : (List GNode)) => some (y1, y2, y3, y4, y5)) fun j9 => if r5 = true then (j9 s4.1 s4.2.1 s4.2.2.1 s4.2.2.2.1 s4.2.2.2.2) else (j9 7 0 x1 ([] : (List ByteArray)) ([(⟨s4.1, s4.2.1, s4.2.2.1, s4.2.2.2.1, s4.2.2.2.2⟩ : GNode)] : List GNode))) (p0.Op, p0.N, p0.Name, p0.Index, p0.L) r4.reverse).bind fun s1 => some (⟨s1.1, s1.2.1, s1.2.2.1, s1.2.2.2.1, s1.2.2.2.2⟩ : GNode))))
def l34_0 : Nat → GNode → (List ByteArray) → (List GNode) → (List GNode) → Int → Option (GNode)
  | 0, _, _, _, _, _ => none
  | k + 1, p0, p1, r1, l1, i1 => if i1 < (r1.length : Int) then ((idx l1 i1).bind fun eM => (m34 k eM p1).bind fun fK => (idx l1 i1).bind fun _ => l34_0 k p0 p1 r1 (l1.set (i1 : Int).toNat fK) (wr (i1 + 1))) else (some (⟨p0.Op, 0, ByteArray.empty, [], l1⟩ : GNode))
def l34_1 : Nat → GNode → (List ByteArray) → (List GNode) → (List GNode) → Int → Option (GNode)
  | 0, _, _, _, _, _ => none
  | k + 1, p0, p1, r2, l2, i2 => if i2 < (r2.length : Int) then ((idx l2 i2).bind fun xd2_4_1 => (m34 k xd2_4_1 p1).bind fun fL => (idx l2 i2).bind fun _ => l34_1 k p0 p1 r2 (l2.set (i2 : Int).toNat fL) (wr (i2 + 1))) else (some (⟨p0.Op, 0, ByteArray.empty, [], l2⟩ : GNode))
def l34_2 : Nat → GNode → (List ByteArray) → (List GNode) → (List GNode) → Int → Option (GNode)
  | 0, _, _, _, _, _ => none
  | k + 1, p0, p1, r3, l3, i3 => if i3 < (r3.length : Int) then ((idx l3 i3).bind fun xd3_4_1 => (m34 k xd3_4_1 p1).bind fun fM => (idx l3 i3).bind fun _ => l34_2 k p0 p1 r3 (l3.set (i3 : Int).toNat fM) (wr (i3 + 1))) else (some (⟨p0.Op, 0, ByteArray.empty, [], l3⟩ : GNode))
end
def m17 (k : Nat) (p0 : GStmt) : Option (GNode × Int) := (m26 k (⟨[], ([p0] : List GStmt)⟩ : GProg)).bind fun r1 => if r1 = 0 then ((m34 k p0.E p0.Index).bind fun r2 => some (r2, 0)) else (some ((⟨0, 0, ByteArray.empty, [], []⟩ : GNode), r1))
def m32 (p0 : GDecl) (p1_0 : ByteArray) : Option (Bool) := some (decide (p0.Name = p1_0))
def l31_0 : Nat → ByteArray → Nat → (List GDecl) → Option (Int)
  | 0, _, _, _ => none
  | _ + 1, _, _, [] => some (-1)
  | k + 1, cP, j1, x1 :: xs2 => (m32 x1 cP).bind fun r1 => if r1 = true then (some (j1 : Int)) else (l31_0 k cP (j1 + 1) xs2)
def m31 (k : Nat) (p0 : (List GDecl)) (cP : ByteArray) : Option (Int) := l31_0 k cP 0 p0
def m13 (k : Nat) (p0 : ByteArray) (p1 : (List GDecl)) : Option (GDecl × Bool) := (m31 k p1 p0).bind fun r1 => if r1 < 0 then (some ((⟨ByteArray.empty, [], ByteArray.empty, 0⟩ : GDecl), false)) else ((idx p1 r1).bind fun x1 => some (x1, true))
def l82_0 : Nat → (List Int) → (List GSpec) → Int → Option ((List GSpec))
  | 0, _, _, _ => none
  | k + 1, p0, l1, i1 => if (wr (i1 + 1)) < (p0.length : Int) then ((idx p0 i1).bind fun fS => (idx p0 (wr (i1 + 1))).bind fun eC => if l1.length + ([(⟨fS, eC, 0⟩ : GSpec)] : List GSpec).length ≤ apl then (l82_0 k p0 (l1 ++ ([(⟨fS, eC, 0⟩ : GSpec)] : List GSpec)) (wr (i1 + 2))) else none) else (some l1)
def m82 (k : Nat) (p0 : (List Int)) : Option ((List GSpec)) := l82_0 k p0 ([] : (List GSpec)) 0
def l83_0 : Nat → Int → Int → Int → (List GSpec) → Int → Option ((List GSpec))
  | 0, _, _, _, _, _ => none
  | k + 1, p0, p1, p2_0, l1, i1 => if i1 < p2_0 then (if l1.length + ([(⟨p1, i1, 0⟩ : GSpec)] : List GSpec).length ≤ apl then ((idx (l1 ++ ([(⟨p1, i1, 0⟩ : GSpec)] : List GSpec)) 0).bind fun x1 => l83_0 k p0 p1 p2_0 ((l1 ++ ([(⟨p1, i1, 0⟩ : GSpec)] : List GSpec)).set (0 : Int).toNat (⟨p0, x1.Mode, x1.Size⟩ : GSpec)) (wr (i1 + 1))) else none) else (some l1)
def m83 (k : Nat) (p0 : Int) (p1 : Int) (p2_0 : Int) : Option ((List GSpec)) := l83_0 k p0 p1 p2_0 ([] : (List GSpec)) 0
def m56 (k : Nat) (p0 : ByteArray) (p1 : Int) (p2 : Int) : Option ((List GSpec) × Int) := if p1 < 0 then (some (([] : (List GSpec)), 1)) else (if 4 < p1 then (some (([] : (List GSpec)), 1)) else ((m82 k ([0, 0, 1, 1] : List Int)).bind fun r1 => (m82 k ([0, 1, 1, 0] : List Int)).bind fun r2 => (m82 k ([1, 0, 1, 1] : List Int)).bind fun r3 => (m82 k ([1, 1, 1, 0] : List Int)).bind fun r4 => (m82 k ([0, 0, 1, 1] : List Int)).bind fun r5 => if r5.length + ([(⟨4, 0, p2⟩ : GSpec), (⟨4, 1, p2⟩ : GSpec)] : List GSpec).length ≤ apl then (if p0 = (⟨#[100, 101, 110, 115, 101]⟩ : ByteArray) then ((m83 k 0 0 p1).bind fun r6 => some (r6, 0)) else (if p0 = (⟨#[99, 115, 102]⟩ : ByteArray) then ((m83 k 1 1 p1).bind fun r7 => some (r7, 0)) else (jn (fun (_ : Unit) => some ((dV (cC (cC (cC (cC (cC ([] : (List (ByteArray × (List GSpec)))) (⟨#[99, 115, 114]⟩ : ByteArray) r1) (⟨#[99, 115, 99]⟩ : ByteArray) r2) (⟨#[100, 99, 115, 114]⟩ : ByteArray) r3) (⟨#[100, 99, 115, 99]⟩ : ByteArray) r4) (⟨#[98, 115, 114]⟩ : ByteArray) (r5 ++ ([(⟨4, 0, p2⟩ : GSpec), (⟨4, 1, p2⟩ : GSpec)] : List GSpec))) p0).getD ([] : (List GSpec)), 0)) fun j3 => if p0 = (⟨#[99, 111, 111]⟩ : ByteArray) then (if 0 < p1 then ((m83 k 2 3 p1).bind fun r8 => some (r8, 0)) else (if ((dV (cC (cC (cC (cC (cC ([] : (List (ByteArray × (List GSpec)))) (⟨#[99, 115, 114]⟩ : ByteArray) r1) (⟨#[99, 115, 99]⟩ : ByteArray) r2) (⟨#[100, 99, 115, 114]⟩ : ByteArray) r3) (⟨#[100, 99, 115, 99]⟩ : ByteArray) r4) (⟨#[98, 115, 114]⟩ : ByteArray) (r5 ++ ([(⟨4, 0, p2⟩ : GSpec), (⟨4, 1, p2⟩ : GSpec)] : List GSpec))) p0).isSome) = true then (if p1 = 2 then (jn (fun (_ : Unit) => j3 ()) fun j5 => if p0 = (⟨#[98, 115, 114]⟩ : ByteArray) then (if p2 < 1 then (some (([] : (List GSpec)), 1)) else (j5 ())) else (j5 ())) else (some (([] : (List GSpec)), 5))) else (some (([] : (List GSpec)), 5)))) else (if ((dV (cC (cC (cC (cC (cC ([] : (List (ByteArray × (List GSpec)))) (⟨#[99, 115, 114]⟩ : ByteArray) r1) (⟨#[99, 115, 99]⟩ : ByteArray) r2) (⟨#[100, 99, 115, 114]⟩ : ByteArray) r3) (⟨#[100, 99, 115, 99]⟩ : ByteArray) r4) (⟨#[98, 115, 114]⟩ : ByteArray) (r5 ++ ([(⟨4, 0, p2⟩ : GSpec), (⟨4, 1, p2⟩ : GSpec)] : List GSpec))) p0).isSome) = true then (if p1 = 2 then (jn (fun (_ : Unit) => j3 ()) fun j7 => if p0 = (⟨#[98, 115, 114]⟩ : ByteArray) then (if p2 < 1 then (some (([] : (List GSpec)), 1)) else (j7 ())) else (j7 ())) else (some (([] : (List GSpec)), 5))) else (some (([] : (List GSpec)), 5)))))) else none))
def m97 (p0 : Int) : Option (Bool) := some (decide (p0 < 0))
def l91_1_0 : Nat → Nat → (List Int) → Option (Int)
  | 0, _, _ => none
  | _ + 1, _, [] => some (-1)
  | k + 1, j1, x1 :: xs2 => (m97 x1).bind fun r1 => if r1 = true then (some (j1 : Int)) else (l91_1_0 k (j1 + 1) xs2)
def m91_1 (k : Nat) (p0 : (List Int)) : Option (Int) := l91_1_0 k 0 p0
def m77_1 (k : Nat) (p0 : (List Int)) : Option (Bool) := (m91_1 k p0).bind fun r1 => some (decide (0 ≤ r1))
def l101_0 : Nat → Int → Nat → (List Int) → Option (Int)
  | 0, _, _, _ => none
  | _ + 1, _, _, [] => some (-1)
  | k + 1, p1, j1, x1 :: xs2 => if p1 = x1 then (some (j1 : Int)) else (l101_0 k p1 (j1 + 1) xs2)
def m101 (k : Nat) (p0 : (List Int)) (p1 : Int) : Option (Int) := l101_0 k p1 0 p0
def m98 (k : Nat) (p0 : (List Int)) (p1 : Int) : Option (Bool) := (m101 k p0 p1).bind fun r1 => some (decide (0 ≤ r1))
def m99 (p0 : Int) (p1 : Int) : Option (Int × Int) := some (bR ((bR ((bR ((Int.fdiv p0 4294967296) * (Int.fdiv p1 4294967296))) + (Int.fdiv (bR ((bR ((Int.fdiv p0 4294967296) * (bQ p1 4294967295))) + (Int.fdiv (bR ((bQ p0 4294967295) * (bQ p1 4294967295))) 4294967296))) 4294967296))) + (Int.fdiv (bR ((bQ (bR ((bR ((Int.fdiv p0 4294967296) * (bQ p1 4294967295))) + (Int.fdiv (bR ((bQ p0 4294967295) * (bQ p1 4294967295))) 4294967296))) 4294967295) + (bR ((bQ p0 4294967295) * (Int.fdiv p1 4294967296))))) 4294967296)), bR (p0 * p1))
def l93_0 : Nat → Int → (List Int) → Option (Int × Int)
  | 0, _, _ => none
  | _ + 1, i1, [] => some (wr (i1), 0)
  | k + 1, i1, x1 :: xs2 => (m99 i1 (bR (x1))).bind fun r3 => if 0 < r3.1 then (some (0, 2)) else (if 4611686018427387904 ≤ r3.2 then (some (0, 2)) else (l93_0 k r3.2 xs2))
def m93 (k : Nat) (p0 : (List Int)) : Option (Int × Int) := if 4 < (p0.length : Int) then (some (0, 1)) else ((m77_1 k p0).bind fun r1 => if r1 = true then (some (0, 1)) else ((m98 k p0 0).bind fun r2 => if r2 = true then (some (0, 0)) else (l93_0 k 1 p0)))
mutual
def l94_0 : Nat → (List Int) → Bool → Int → Bool → Int → Bool → Int → Bool → Int → Int → (List GSpec) → Option (GModes × Bool)
  | 0, _, _, _, _, _, _, _, _, _, _, _ => none
  | k + 1, p0, b2, i1, b3, i2, b4, i3, b5, i4, _, [] => l94_1 k p0 b2 i1 b3 i2 b4 i3 b5 i4 0
  | k + 1, p0, b2, i1, b3, i2, b4, i3, b5, i4, i5, x1 :: xs2 => if x1.Mode < 0 then (some ((⟨(⟨b2, i1⟩ : GT152), (⟨b3, i2⟩ : GT152), (⟨b4, i3⟩ : GT152), (⟨b5, i4⟩ : GT152)⟩ : GModes), false)) else (if (p0.length : Int) ≤ x1.Mode then (some ((⟨(⟨b2, i1⟩ : GT152), (⟨b3, i2⟩ : GT152), (⟨b4, i3⟩ : GT152), (⟨b5, i4⟩ : GT152)⟩ : GModes), false)) else (jn (fun (y1 : Bool) => if (0 : Int) ≤ x1.Mode ∧ x1.Mode < 4 then (jn (fun (y25 : Bool) (y26 : Bool) (y27 : Int) (y28 : Bool) (y29 : Int) (y30 : Bool) (y31 : Int) (y32 : Bool) (y33 : Int) => if y25 = true then (l94_0 k p0 y26 y27 y28 y29 y30 y31 y32 y33 x1.Kind xs2) else (some ((⟨(⟨y26, y27⟩ : GT152), (⟨y28, y29⟩ : GT152), (⟨y30, y31⟩ : GT152), (⟨y32, y33⟩ : GT152)⟩ : GModes), false))) fun j6 => if x1.Kind = 0 then (jn (fun (y2 : Bool) => j6 y2 (if (x1.Mode : Int).toNat = 0 then true else b2) i1 (if (x1.Mode : Int).toNat = 1 then true else b3) i2 (if (x1.Mode : Int).toNat = 2 then true else b4) i3 (if (x1.Mode : Int).toNat = 3 then true else b5) i4) fun j7 => if (([b2, b3, b4, b5] : List Bool).getD (x1.Mode : Int).toNat false) = true then (j7 false) else (if x1.Size = 0 then (j7 (y1 == (decide (x1.Kind = 3)))) else (j7 false))) else (jn (fun (y16 : Bool) (y17 : Bool) (y18 : Int) (y19 : Bool) (y20 : Int) (y21 : Bool) (y22 : Int) (y23 : Bool) (y24 : Int) => j6 y16 y17 y18 y19 y20 y21 y22 y23 y24) fun j8 => if x1.Kind = 1 then (jn (fun (y3 : Bool) => j8 y3 (if (x1.Mode : Int).toNat = 0 then true else b2) i1 (if (x1.Mode : Int).toNat = 1 then true else b3) i2 (if (x1.Mode : Int).toNat = 2 then true else b4) i3 (if (x1.Mode : Int).toNat = 3 then true else b5) i4) fun j9 => if (([b2, b3, b4, b5] : List Bool).getD (x1.Mode : Int).toNat false) = true then (j9 false) else (if x1.Size = 0 then (j9 (y1 == (decide (x1.Kind = 3)))) else (j9 false))) else (jn (fun (y7 : Bool) (y8 : Bool) (y9 : Int) (y10 : Bool) (y11 : Int) (y12 : Bool) (y13 : Int) (y14 : Bool) (y15 : Int) => j8 y7 y8 y9 y10 y11 y12 y13 y14 y15) fun j10 => if x1.Kind = 2 then (jn (fun (y4 : Bool) => j10 y4 (if (x1.Mode : Int).toNat = 0 then true else b2) i1 (if (x1.Mode : Int).toNat = 1 then true else b3) i2 (if (x1.Mode : Int).toNat = 2 then true else b4) i3 (if (x1.Mode : Int).toNat = 3 then true else b5) i4) fun j11 => if (([b2, b3, b4, b5] : List Bool).getD (x1.Mode : Int).toNat false) = true then (j11 false) else (if x1.Size = 0 then (j11 (y1 == (decide (x1.Kind = 3)))) else (j11 false))) else (if x1.Kind = 3 then (jn (fun (y5 : Bool) => j10 y5 (if (x1.Mode : Int).toNat = 0 then true else b2) i1 (if (x1.Mode : Int).toNat = 1 then true else b3) i2 (if (x1.Mode : Int).toNat = 2 then true else b4) i3 (if (x1.Mode : Int).toNat = 3 then true else b5) i4) fun j12 => if (([b2, b3, b4, b5] : List Bool).getD (x1.Mode : Int).toNat false) = true then (j12 false) else (if x1.Size = 0 then (j12 (y1 == (decide (x1.Kind = 3)))) else (j12 false))) else (if x1.Kind = 4 then (jn (fun (y6 : Bool) => j10 y6 b2 (if (x1.Mode : Int).toNat = 0 then x1.Size else i1) b3 (if (x1.Mode : Int).toNat = 1 then x1.Size else i2) b4 (if (x1.Mode : Int).toNat = 2 then x1.Size else i3) b5 (if (x1.Mode : Int).toNat = 3 then x1.Size else i4)) fun j13 => if (([b2, b3, b4, b5] : List Bool).getD (x1.Mode : Int).toNat false) = true then (if (([i1, i2, i3, i4] : List Int).getD (x1.Mode : Int).toNat 0) = 0 then (if y1 = true then (j13 false) else (if 0 < x1.Size then ((idx p0 x1.Mode).bind fun xd1_24_1 => if x1.Size ≠ 0 then (j13 (decide ((xd1_24_1.tmod x1.Size) = 0))) else none) else (j13 false))) else (j13 false)) else (j13 false)) else (j10 false b2 i1 b3 i2 b4 i3 b5 i4)))))) else none) fun j5 => if i5 = 2 then (j5 true) else (j5 (decide (i5 = 3)))))
def l94_1 : Nat → (List Int) → Bool → Int → Bool → Int → Bool → Int → Bool → Int → Int → Option (GModes × Bool)
  | 0, _, _, _, _, _, _, _, _, _, _ => none
  | k + 1, p0, b6, i6, b7, i7, b8, i8, b9, i9, i10 => if i10 < (p0.length : Int) then (if (0 : Int) ≤ i10 ∧ i10 < 4 then (if (([b6, b7, b8, b9] : List Bool).getD (i10 : Int).toNat false) = true then (l94_1 k p0 b6 i6 b7 i7 b8 i8 b9 i9 (wr (i10 + 1))) else (some ((⟨(⟨b6, i6⟩ : GT152), (⟨b7, i7⟩ : GT152), (⟨b8, i8⟩ : GT152), (⟨b9, i9⟩ : GT152)⟩ : GModes), false))) else none) else (some ((⟨(⟨b6, i6⟩ : GT152), (⟨b7, i7⟩ : GT152), (⟨b8, i8⟩ : GT152), (⟨b9, i9⟩ : GT152)⟩ : GModes), true))
end
def m94 (k : Nat) (p0 : (List Int)) (p1 : (List GSpec)) : Option (GModes × Bool) := l94_0 k p0 false 0 false 0 false 0 false 0 0 p1
def l84_0 : Nat → (List Int) → (GModes × Bool) → Nat → (List Int) → (List GSpec) → Option ((List Int) × Int)
  | 0, _, _, _, _, _ => none
  | _ + 1, _, _, _, l1, [] => some (l1, 0)
  | k + 1, p0, r2, j3, l1, x1 :: xs2 => if (0 : Int) ≤ x1.Mode ∧ x1.Mode < 4 then (jn (fun (y1 : (List Int)) => (idx y1 (j3 : Int)).bind fun x7 => if 2147483648 < x7 then (some (([] : (List Int)), 2)) else (l84_0 k p0 r2 (j3 + 1) y1 xs2)) fun j4 => if x1.Kind = 4 then ((idx l1 (j3 : Int)).bind fun _ => j4 (l1.set ((j3 : Int) : Int).toNat (([r2.1.e0.block, r2.1.e1.block, r2.1.e2.block, r2.1.e3.block] : List Int).getD (x1.Mode : Int).toNat 0))) else (if 0 < (([r2.1.e0.block, r2.1.e1.block, r2.1.e2.block, r2.1.e3.block] : List Int).getD (x1.Mode : Int).toNat 0) then ((idx p0 x1.Mode).bind fun x3 => if (([r2.1.e0.block, r2.1.e1.block, r2.1.e2.block, r2.1.e3.block] : List Int).getD (x1.Mode : Int).toNat 0) ≠ 0 then ((idx l1 (j3 : Int)).bind fun _ => j4 (l1.set ((j3 : Int) : Int).toNat (wr (x3.tdiv (([r2.1.e0.block, r2.1.e1.block, r2.1.e2.block, r2.1.e3.block] : List Int).getD (x1.Mode : Int).toNat 0))))) else none) else ((idx p0 x1.Mode).bind fun x5 => (idx l1 (j3 : Int)).bind fun _ => j4 (l1.set ((j3 : Int) : Int).toNat x5)))) else none
def m84 (k : Nat) (p0 : (List Int)) (p1 : (List GSpec)) : Option ((List Int) × Int) := (m93 k p0).bind fun r1 => if r1.2 = 0 then ((m94 k p0 p1).bind fun r2 => if r2.2 = true then (if (0 : Int) ≤ (p1.length : Int) ∧ (p1.length : Int) ≤ 274877906944 then (l84_0 k p0 r2 0 (List.replicate ((p1.length : Int) : Int).toNat (0 : Int)) p1) else none) else (some (([] : (List Int)), 4))) else (some (([] : (List Int)), r1.2))
def m57 (k : Nat) (p0 : (List Int)) (p1 : (List GSpec)) : Option (Int) := (m84 k p0 p1).bind fun r1 => some r1.2
def m33 (k : Nat) (p0 : GDecl) : Option ((List GSpec) × Int) := (m56 k p0.Form (p0.Shape.length : Int) p0.Block).bind fun r1 => jn (fun (y1 : Int) => if y1 = 0 then (some (r1.1, 0)) else (some (([] : (List GSpec)), y1))) fun j1 => if r1.2 = 0 then ((m57 k p0.Shape r1.1).bind fun r2 => j1 r2) else (j1 r1.2)
def l15_0 : Nat → (List GDecl) → Nat → (List GDecl) → Option (Int × Int)
  | 0, _, _, _ => none
  | _ + 1, p0, _, [] => some ((p0.length : Int), 0)
  | k + 1, p0, j1, x1 :: xs2 => if (0 : Int) ≤ (j1 : Int) ∧ (j1 : Int) ≤ ((j1 + 1 : Nat) : Int) ∧ ((j1 + 1 : Nat) : Int) ≤ (p0.length : Int) then ((m26 k (⟨(p0.take (((j1 + 1 : Nat) : Int) : Int).toNat).drop ((j1 : Int) : Int).toNat, []⟩ : GProg)).bind fun r1 => jn (fun (y2 : Int) => jn (fun (y3 : Int) => if y3 = 0 then (l15_0 k p0 (j1 + 1) xs2) else (some ((j1 : Int), y3))) fun j4 => if y2 = 0 then ((m33 k x1).bind fun r2 => j4 r2.2) else (j4 y2)) fun j2 => if r1 = 0 then (jn (fun (y1 : Bool) => if y1 = true then (j2 7) else (j2 r1)) fun j3 => if (0 : Int) ≤ 0 ∧ 0 ≤ (j1 : Int) ∧ (j1 : Int) ≤ (p0.length : Int) then ((m13 k x1.Name ((p0.take ((j1 : Int) : Int).toNat).drop (0 : Int).toNat)).bind fun bV => j3 bV.2) else none) else (j2 r1)) else none
def m15 (k : Nat) (p0 : (List GDecl)) : Option (Int × Int) := l15_0 k p0 0 p0
def m27 (k : Nat) (p0 : (List GDecl)) (p1 : ByteArray) (p2 : (List ByteArray)) : Option ((List Int) × Int) := (m13 k p1 p0).bind fun r1 => if r1.2 = true then (if (r1.1.Shape.length : Int) = (p2.length : Int) then (some (r1.1.Shape, 0)) else (some (([] : (List Int)), 8))) else (some (([] : (List Int)), 7))
def m52 (p0 : GDim) (p1_0 : (List ByteArray)) (p2_0 : Int) : Option (Bool) := (idx p1_0 p2_0).bind fun eM => some (decide (p0.Name = eM))
def l51_0 : Nat → (List ByteArray) → Int → Nat → (List GDim) → Option (Int)
  | 0, _, _, _, _ => none
  | _ + 1, _, _, _, [] => some (-1)
  | k + 1, cP, p1_v1_0, j1, x1 :: xs2 => (m52 x1 cP p1_v1_0).bind fun r1 => if r1 = true then (some (j1 : Int)) else (l51_0 k cP p1_v1_0 (j1 + 1) xs2)
def m51 (k : Nat) (p0 : (List GDim)) (cP : (List ByteArray)) (p1_v1_0 : Int) : Option (Int) := l51_0 k cP p1_v1_0 0 p0
def l29_0 : Nat → (List ByteArray) → ((List Int) × Int) → Nat → (List GDecl) → (List GDim) → (List Int) → Option (Int × (List GDecl) × (List GDim))
  | 0, _, _, _, _, _, _ => none
  | _ + 1, _, dG, _, l1, l2, [] => some (dG.2, l1, l2)
  | k + 1, p2, dG, j1, l1, l2, x1 :: xs2 => (m51 k l2 p2 (j1 : Int)).bind fun r1 => jn (fun (y1 : (List GDim)) => l29_0 k p2 dG (j1 + 1) l1 y1 xs2) fun j2 => if r1 < 0 then ((idx p2 (j1 : Int)).bind fun fH => if l2.length + ([(⟨fH, x1⟩ : GDim)] : List GDim).length ≤ apl then (j2 (l2 ++ ([(⟨fH, x1⟩ : GDim)] : List GDim))) else none) else ((idx l2 r1).bind fun x2 => if x2.Size = x1 then (j2 l2) else (some (4, l1, l2)))
def m29 (k : Nat) (cJ : (List GDecl)) (cW : (List GDim)) (p1 : ByteArray) (p2 : (List ByteArray)) : Option (Int × (List GDecl) × (List GDim)) := (m27 k cJ p1 p2).bind fun dG => l29_0 k p2 dG 0 cJ cW dG.1
mutual
def m12 : Nat → GNode → Option ((List GNode))
  | 0, _ => none
  | k + 1, p0 => if p0.Op = 2 then (some ([p0] : List GNode)) else (l12_0 k ([] : (List GNode)) p0.L)
def l12_0 : Nat → (List GNode) → (List GNode) → Option ((List GNode))
  | 0, _, _ => none
  | _ + 1, l1, [] => some l1
  | k + 1, l1, x1 :: xs2 => (m12 k x1).bind fun r1 => if l1.length + r1.length ≤ apl then (l12_0 k (l1 ++ r1) xs2) else none
end
def m53 (k : Nat) (p0 : GNode) (_ : Int) (_ : Int) (p1_2 : ByteArray) (_ : (List ByteArray)) (_ : (List GNode)) : Option (Bool) := (m28 k p0.Index p1_2).bind fun r1 => some r1
def l81_0 : Nat → Int → Int → ByteArray → (List ByteArray) → (List GNode) → Nat → (List GNode) → Option (Int)
  | 0, _, _, _, _, _, _, _ => none
  | _ + 1, _, _, _, _, _, _, [] => some (-1)
  | k + 1, cP, eP, eQ, eD, eE, j1, x1 :: xs2 => (m53 k x1 cP eP eQ eD eE).bind fun r1 => if r1 = true then (some (j1 : Int)) else (l81_0 k cP eP eQ eD eE (j1 + 1) xs2)
def m81 (k : Nat) (p0 : (List GNode)) (cP : Int) (eP : Int) (eQ : ByteArray) (eD : (List ByteArray)) (eE : (List GNode)) : Option (Int) := l81_0 k cP eP eQ eD eE 0 p0
def m54 (k : Nat) (p0 : (List GNode)) (cP : Int) (eP : Int) (eQ : ByteArray) (eD : (List ByteArray)) (eE : (List GNode)) : Option (Bool) := (m81 k p0 cP eP eQ eD eE).bind fun r1 => some (decide (0 ≤ r1))
mutual
def m55 : Nat → GNode → Option (Bool)
  | 0, _ => none
  | k + 1, p0 => (m30 k p0).bind fun r1 => some (!r1)
def m30 : Nat → GNode → Option (Bool)
  | 0, _ => none
  | k + 1, p0 => jn (fun (_ : Unit) => (m54_1 k p0.L).bind fun r3 => some (!r3)) fun j1 => if p0.Op = 7 then ((m12 k p0).bind fun r1 => (m54 k r1 p0.Op p0.N p0.Name p0.Index p0.L).bind fun r2 => if r2 = true then (j1 ()) else (some false)) else (j1 ())
def m54_1 : Nat → (List GNode) → Option (Bool)
  | 0, _ => none
  | k + 1, p0 => (m81_1 k p0).bind fun r1 => some (decide (0 ≤ r1))
def m81_1 : Nat → (List GNode) → Option (Int)
  | 0, _ => none
  | k + 1, p0 => l81_1_0 k 0 p0
def l81_1_0 : Nat → Nat → (List GNode) → Option (Int)
  | 0, _, _ => none
  | _ + 1, _, [] => some (-1)
  | k + 1, j1, x1 :: xs2 => (m55 k x1).bind fun r1 => if r1 = true then (some (j1 : Int)) else (l81_1_0 k (j1 + 1) xs2)
end
mutual
def l10_0 : Nat → GStmt → (List GDecl) → Nat → (List ByteArray) → Option ((List GDim) × Int)
  | 0, _, _, _, _ => none
  | k + 1, p0, p1, _, [] => (m29 k p1 ([] : (List GDim)) p0.Name p0.Index).bind fun r3 => (m12 k p0.E).bind fun r4 => l10_1 k p0 r3.2.1 r3.2.2 r3.1 r4
  | k + 1, p0, p1, j3, x1 :: xs2 => if (0 : Int) ≤ 0 ∧ 0 ≤ (j3 : Int) ∧ (j3 : Int) ≤ (p0.Index.length : Int) then ((m28 k ((p0.Index.take ((j3 : Int) : Int).toNat).drop (0 : Int).toNat) x1).bind fun r7 => if r7 = true then (some (([] : (List GDim)), 7)) else (l10_0 k p0 p1 (j3 + 1) xs2)) else none
def l10_1 : Nat → GStmt → (List GDecl) → (List GDim) → Int → (List GNode) → Option ((List GDim) × Int)
  | 0, _, _, _, _, _ => none
  | k + 1, p0, _, l2, i1, [] => if i1 = 0 then ((m30 k p0.E).bind fun r5 => if r5 = true then (some (l2, 0)) else (some (([] : (List GDim)), 5))) else (some (([] : (List GDim)), i1))
  | k + 1, p0, l1, l2, i1, x2 :: xs4 => jn (fun (y1 : Int) (y2 : (List GDecl)) (y3 : (List GDim)) => l10_1 k p0 y2 y3 y1 xs4) fun j6 => if i1 = 0 then ((m29 k l1 l2 x2.Name x2.Index).bind fun r6 => j6 r6.1 r6.2.1 r6.2.2) else (j6 i1 l1 l2)
end
def m10 (k : Nat) (p0 : GStmt) (p1 : (List GDecl)) : Option ((List GDim) × Int) := (m15 k p1).bind fun r1 => if r1.2 = 0 then ((m26 k (⟨[], ([p0] : List GStmt)⟩ : GProg)).bind fun r2 => if r2 = 0 then ((m27 k p1 p0.Name p0.Index).bind fun bV => if bV.2 = 0 then (l10_0 k p0 p1 0 p0.Index) else (some (([] : (List GDim)), bV.2))) else (some (([] : (List GDim)), 1))) else (some (([] : (List GDim)), 1))
def l14_0 : Nat → GProg → Int → (List GStmt) → Option (Int × Int)
  | 0, _, _, _ => none
  | _ + 1, _, i1, [] => some (i1, 0)
  | k + 1, p0, i1, x1 :: xs2 => (m10 k x1 p0.D).bind fun r3 => if r3.2 = 0 then (l14_0 k p0 (wr (i1 + 1)) xs2) else (some (i1, r3.2))
def m14 (k : Nat) (p0 : GProg) : Option (Int × Int) := (m26 k p0).bind fun r1 => if r1 = 0 then ((m15 k p0.D).bind fun r2 => if r2.2 = 0 then (l14_0 k p0 r2.1 p0.S) else (some (r2.1, r2.2))) else (some (0, r1))
def m8 (k : Nat) : Option (Bool) := (m24 k (⟨#[116, 101, 110, 115, 111, 114, 32, 97, 91, 50, 93, 58, 32, 100, 101, 110, 115, 101, 10, 116, 101, 110, 115, 111, 114, 32, 98, 91, 50, 44, 51, 93, 58, 32, 99, 115, 114, 10, 116, 101, 110, 115, 111, 114, 32, 99, 91, 51, 93, 58, 32, 99, 115, 102, 10, 97, 91, 105, 93, 32, 61, 32, 98, 91, 105, 44, 32, 107, 93, 32, 42, 32, 99, 91, 107, 93, 32, 43, 32, 97, 91, 105, 93]⟩ : ByteArray)).bind fun r1 => if r1.2.2 = 0 then (if (r1.1.S.length : Int) = 1 then ((idx r1.1.S 0).bind fun x1 => (m17 k x1).bind fun r2 => (m14 k r1.1).bind fun r3 => jn (fun (y1 : Bool) => some y1) fun j2 => if r2.2 = 0 then (if r2.1.Op = 3 then (if (r2.1.L.length : Int) = 2 then ((idx r2.1.L 0).bind fun x2 => if x2.Op = 7 then ((idx r2.1.L 0).bind fun x3 => if x3.Name = (⟨#[107]⟩ : ByteArray) then ((idx r2.1.L 1).bind fun x4 => if x4.Op = 2 then (if r3.1 = 4 then (j2 (decide (r3.2 = 0))) else (j2 false)) else (j2 false)) else (j2 false)) else (j2 false)) else (j2 false)) else (j2 false)) else (j2 false)) else (some false)) else (some false)
mutual
def m25 : Nat → GNode → Int → Option (Bool)
  | 0, _, _ => none
  | k + 1, p0, p1 => if p1 = 0 then (some false) else (if 5 < (p0.L.length : Int) then (some false) else (if 10 < (p0.Index.length : Int) then (some false) else (if 100 < (p0.Name.size : Int) then (some false) else (l25_0 k p0 p1 p0.Index))))
def l25_0 : Nat → GNode → Int → (List ByteArray) → Option (Bool)
  | 0, _, _, _ => none
  | k + 1, p0, p1, [] => l25_1 k p1 p0.L
  | k + 1, p0, p1, x1 :: xs2 => if 100 < (x1.size : Int) then (some false) else (l25_0 k p0 p1 xs2)
def l25_1 : Nat → Int → (List GNode) → Option (Bool)
  | 0, _, _ => none
  | _ + 1, _, [] => some true
  | k + 1, p1, x2 :: xs4 => (m25 k x2 (wr (p1 - 1))).bind fun r1 => if r1 = true then (l25_1 k p1 xs4) else (some false)
end
mutual
def l9_0 : Nat → GProg → (List GDecl) → Option (Bool)
  | 0, _, _ => none
  | k + 1, p0, [] => l9_1 k p0 p0.S
  | k + 1, p0, x1 :: xs2 => if 20 < (x1.Shape.length : Int) then (some false) else (if 200 < (wr ((x1.Name.size : Int) + (x1.Form.size : Int))) then (some false) else (l9_0 k p0 xs2))
def l9_1 : Nat → GProg → (List GStmt) → Option (Bool)
  | 0, _, _ => none
  | _ + 1, p0, [] => jn (fun (y1 : Bool) => some y1) fun j3 => if (p0.D.length : Int) ≤ 40 then (j3 (decide ((p0.S.length : Int) ≤ 40))) else (j3 false)
  | k + 1, p0, x2 :: xs4 => (m25 k x2.E 20).bind fun r1 => if r1 = true then (if 20 < (x2.Index.length : Int) then (some false) else (if 100 < (x2.Name.size : Int) then (some false) else (l9_2 k p0 xs4 x2.Index))) else (some false)
def l9_2 : Nat → GProg → (List GStmt) → (List ByteArray) → Option (Bool)
  | 0, _, _, _ => none
  | k + 1, p0, xs4, [] => l9_1 k p0 xs4
  | k + 1, p0, xs4, x3 :: xs6 => if 100 < (x3.size : Int) then (some false) else (l9_2 k p0 xs4 xs6)
end
def m9 (k : Nat) (p0 : GProg) : Option (Bool) := l9_0 k p0 p0.D
def l11_0 : Nat → ByteArray → (List GDim) → Option (Int × Bool)
  | 0, _, _ => none
  | _ + 1, _, [] => some (0, false)
  | k + 1, p1, x1 :: xs2 => if x1.Name = p1 then (some (x1.Size, true)) else (l11_0 k p1 xs2)
def m11 (k : Nat) (p0 : (List GDim)) (p1 : ByteArray) : Option (Int × Bool) := l11_0 k p1 p0
mutual
def l3_0 : Nat → GProg → Bool → (List GStmt) → Option (Bool)
  | 0, _, _, _ => none
  | _ + 1, _, r1, [] => some r1
  | k + 1, p0, r1, x1 :: xs2 => (m10 k x1 p0.D).bind fun r3 => if r3.2 = 0 then (l3_1 k p0 r1 x1 xs2 r3 0 r3.1) else (l3_0 k p0 r1 xs2)
def l3_1 : Nat → GProg → Bool → GStmt → (List GStmt) → ((List GDim) × Int) → Nat → (List GDim) → Option (Bool)
  | 0, _, _, _, _, _, _, _ => none
  | k + 1, p0, r1, x1, xs2, r3, _, [] => jn (fun (y1 : (List GNode)) (y2 : Int) => l3_2 k p0 r1 xs2 r3 y1 y2 0) fun j5 => (m12 k x1.E).bind fun bV => if ([(⟨0, 0, x1.Name, x1.Index, []⟩ : GNode)] : List GNode).length + bV.length ≤ apl then (j5 (([(⟨0, 0, x1.Name, x1.Index, []⟩ : GNode)] : List GNode) ++ bV) ((([(⟨0, 0, x1.Name, x1.Index, []⟩ : GNode)] : List GNode) ++ bV).length : Int)) else none
  | k + 1, p0, r1, x1, xs2, r3, j4, x2 :: xs4 => if (0 : Int) ≤ 0 ∧ 0 ≤ (j4 : Int) ∧ (j4 : Int) ≤ (r3.1.length : Int) then ((m11 k ((r3.1.take ((j4 : Int) : Int).toNat).drop (0 : Int).toNat) x2.Name).bind fun rd2_5_1 => jn (fun (_ : Unit) => l3_1 k p0 r1 x1 xs2 r3 (j4 + 1) xs4) fun j10 => if rd2_5_1.2 = true then (some false) else (if (j4 : Int) < (x1.Index.length : Int) then ((idx x1.Index (j4 : Int)).bind fun xd3_11_1 => if xd3_11_1 = x2.Name then (j10 ()) else (some false)) else (j10 ()))) else none
def l3_2 : Nat → GProg → Bool → (List GStmt) → ((List GDim) × Int) → (List GNode) → Int → Int → Option (Bool)
  | 0, _, _, _, _, _, _, _ => none
  | k + 1, p0, r1, xs2, r3, y1, y2, i1 => if i1 < y2 then ((idx y1 i1).bind fun x3 => (m13 k x3.Name p0.D).bind fun r4 => if r4.2 = true then (if (r4.1.Shape.length : Int) = (x3.Index.length : Int) then (l3_3 k p0 r1 xs2 r3 y1 y2 i1 r4 0 x3.Index) else (some false)) else (some false)) else (l3_0 k p0 r1 xs2)
def l3_3 : Nat → GProg → Bool → (List GStmt) → ((List GDim) × Int) → (List GNode) → Int → Int → (GDecl × Bool) → Nat → (List ByteArray) → Option (Bool)
  | 0, _, _, _, _, _, _, _, _, _, _ => none
  | k + 1, p0, r1, xs2, r3, y1, y2, i1, _, _, [] => l3_2 k p0 r1 xs2 r3 y1 y2 (wr (i1 + 1))
  | k + 1, p0, r1, xs2, r3, y1, y2, i1, r4, j8, x4 :: xs6 => (m11 k r3.1 x4).bind fun r5 => if r5.2 = true then ((idx r4.1.Shape (j8 : Int)).bind fun x5 => if r5.1 = x5 then (l3_3 k p0 r1 xs2 r3 y1 y2 i1 r4 (j8 + 1) xs6) else (some false)) else (some false)
end
def m3 (k : Nat) (p0 : GProg) : Option (Bool) := (m8 k).bind fun r1 => (m9 k p0).bind fun r2 => if r2 = true then (l3_0 k p0 r1 p0.S) else (some r1)
def m4 (k : Nat) (p0 : GProg) (p1 : Int) : Option (Bool) := (m8 k).bind fun r1 => (m9 k p0).bind fun r2 => if r2 = true then ((m14 k p0).bind fun r3 => if r3.2 = 0 then (if (p0.D.length : Int) = 0 then (some r1) else (if 32 ≤ (p0.D.length : Int) then (some r1) else (if 32 ≤ (p0.S.length : Int) then (some r1) else (if (p0.D.length : Int) ≠ 0 then (if (p0.D.length : Int) ≠ 0 then (jn (fun (y1 : (List GDecl)) => (m14 k (⟨y1, p0.S⟩ : GProg)).bind fun r4 => if r3.1 = (wr ((p0.D.length : Int) + (p0.S.length : Int))) then (if r4.1 = (p0.D.length : Int) then (if r4.2 = 7 then ((m13 k (⟨#[110, 111, 119, 104, 101, 114, 101]⟩ : ByteArray) p0.D).bind fun r5 => if r5.2 = true then (some r1) else (jn (fun (y2 : Int) (y3 : Int) => if y2 = r3.1 then (if y3 = 7 then ((idx p0.D ((wr ((p1.tmod (p0.D.length : Int)) + (p0.D.length : Int))).tmod (p0.D.length : Int))).bind fun x1 => if 4 ≤ (x1.Shape.length : Int) then (some r1) else (if (0 : Int) ≤ 0 ∧ 0 ≤ wr ((x1.Shape.length : Int) + 1) ∧ wr ((x1.Shape.length : Int) + 1) ≤ (4 : Int) then (((some ((([(⟨#[105]⟩ : ByteArray), (⟨#[106]⟩ : ByteArray), (⟨#[107]⟩ : ByteArray), (⟨#[108]⟩ : ByteArray)] : List ByteArray).take (wr ((x1.Shape.length : Int) + 1) : Int).toNat).drop (0 : Int).toNat) : Option (List ByteArray))).bind fun x2 => jn (fun (y4 : Int) (y5 : Int) => jn (fun (y6 : Bool) => some y6) fun j10 => if r1 = true then (if y4 = r3.1 then (j10 (decide (y5 = 8))) else (j10 false)) else (j10 false)) fun j9 => if ([] : List GStmt).length + p0.S.length ≤ apl then (if (([] : List GStmt) ++ p0.S).length + ([(⟨x1.Name, x2, (⟨1, 0, ByteArray.empty, [], []⟩ : GNode)⟩ : GStmt)] : List GStmt).length ≤ apl then ((m14 k (⟨p0.D, (([] : List GStmt) ++ p0.S) ++ ([(⟨x1.Name, x2, (⟨1, 0, ByteArray.empty, [], []⟩ : GNode)⟩ : GStmt)] : List GStmt)⟩ : GProg)).bind fun rd4_9_6 => j9 rd4_9_6.1 rd4_9_6.2) else none) else none) else none)) else (some false)) else (some false)) fun j6 => if ([] : List GStmt).length + p0.S.length ≤ apl then (if (([] : List GStmt) ++ p0.S).length + ([(⟨(⟨#[110, 111, 119, 104, 101, 114, 101]⟩ : ByteArray), [], (⟨1, 0, ByteArray.empty, [], []⟩ : GNode)⟩ : GStmt)] : List GStmt).length ≤ apl then ((m14 k (⟨p0.D, (([] : List GStmt) ++ p0.S) ++ ([(⟨(⟨#[110, 111, 119, 104, 101, 114, 101]⟩ : ByteArray), [], (⟨1, 0, ByteArray.empty, [], []⟩ : GNode)⟩ : GStmt)] : List GStmt)⟩ : GProg)).bind fun rd3_9_6 => j6 rd3_9_6.1 rd3_9_6.2) else none) else none)) else (some false)) else (some false)) else (some false)) fun j3 => (idx p0.D ((wr ((p1.tmod (p0.D.length : Int)) + (p0.D.length : Int))).tmod (p0.D.length : Int))).bind fun xd2_6_1 => if ([] : List GDecl).length + p0.D.length ≤ apl then (if (([] : List GDecl) ++ p0.D).length + ([xd2_6_1] : List GDecl).length ≤ apl then (j3 ((([] : List GDecl) ++ p0.D) ++ ([xd2_6_1] : List GDecl))) else none) else none) else none) else none)))) else (some r1)) else (some r1)
instance : GoTy GDecl where
  sz := 4
  rep h vs x := ∃ (a1 : OA) (c1 : Nat),vs = [.string x.Name,.slice a1 x.Shape.length c1,.string x.Form,I x.Block] ∧ SlR h a1 c1 x.Shape
  mono hl r := by obtain ⟨a1,c1,e,f1⟩ := r; exact ⟨a1,c1,e,f1.mono hl⟩
  len r := by obtain ⟨a1,c1,e,f1⟩ := r; rw [e]; rfl
  one r := by obtain ⟨a1,c1,e,f1⟩ := r; rw [e]; rfl
theorem GDecl.out {h : Sto} {vs : List Value} {x : GDecl} (r : GoTy.rep h vs x) : ∃ (a1 : OA) (c1 : Nat),vs = [.string x.Name,.slice a1 x.Shape.length c1,.string x.Form,I x.Block] ∧ SlR h a1 c1 x.Shape := r
theorem GDecl.into {h : Sto} {x : GDecl} {a1 : OA} {c1 : Nat} (f1 : SlR h a1 c1 x.Shape) : GoTy.rep h [.string x.Name,.slice a1 x.Shape.length c1,.string x.Form,I x.Block] x := ⟨a1,c1,rfl,f1⟩
inductive GNodeRep (h : Sto) : List Value → GNode → Prop
  | mk (x : GNode) (a3 : OA) (c3 : Nat) (a4 : OA) (c4 : Nat) (f3 : SlR h a3 c3 x.Index) (lc : x.L.length ≤ c4) (mx : x.L.length ≤ mxl) (nl : a4 = none → c4 = 0) (cells : Nat → List Value)
      (hel : ∀ i (hi : i < x.L.length),GNodeRep h (cells i) x.L[i])
      (hc : ∀ A,a4 = some A → x.L = [] ∨ (A.spot = none ∧ ∃ cs T fr,h A.block = some (.cells cs T fr) ∧ ∀ i,i < x.L.length → ∀ q,q < 5 → cs[A.off + (i * 5 + q)]? = (cells i)[q]?)) : GNodeRep h [I x.Op,I x.N,.string x.Name,.slice a3 x.Index.length c3,.slice a4 x.L.length c4] x
theorem GNodeRep.mono {h h' : Sto} {vs : List Value} {x : GNode} (hl : Le h h') (r : GNodeRep h vs x) : GNodeRep h' vs x := by
  induction r with
  | mk x a3 c3 a4 c4 f3 lc mx nl cells hel hc ih =>
    exact .mk x a3 c3 a4 c4 (f3.mono hl) lc mx nl cells ih (fun A hA => (hc A hA).imp id fun ⟨sp,cs,T,fr,hb,hi⟩ => ⟨sp,cs,T,fr,hl _ _ hb,hi⟩)
theorem GNodeRep.len {h : Sto} {vs : List Value} {x : GNode} (r : GNodeRep h vs x) : vs.length = 5 := by cases r; rfl
theorem GNodeRep.one {h : Sto} {vs : List Value} {x : GNode} (r : GNodeRep h vs x) : ones vs = true := by cases r; rfl
instance : GoTy GNode where
  sz := 5
  rep := GNodeRep
  mono := GNodeRep.mono
  len := GNodeRep.len
  one := GNodeRep.one
theorem GNode.out {h : Sto} {vs : List Value} {x : GNode} (r : GoTy.rep h vs x) : ∃ (a3 : OA) (c3 : Nat) (a4 : OA) (c4 : Nat),vs = [I x.Op,I x.N,.string x.Name,.slice a3 x.Index.length c3,.slice a4 x.L.length c4] ∧ SlR h a3 c3 x.Index ∧ SlR h a4 c4 x.L := by
  have r' : GNodeRep h vs x := r
  cases r' with
  | mk x a3 c3 a4 c4 f3 lc mx nl cells hel hc =>
    exact ⟨a3,c3,a4,c4,rfl,f3,⟨lc,mx,nl,fun A hA => (hc A hA).imp id fun ⟨sp,cs,T,fr,hb,hi⟩ => ⟨sp,cs,T,fr,hb,fun i hi' => ⟨cells i,hel i hi',hi i hi'⟩⟩⟩⟩
theorem GNode.into {h : Sto} {x : GNode} {a3 : OA} {c3 : Nat} {a4 : OA} {c4 : Nat} (f3 : SlR h a3 c3 x.Index) (f4 : SlR h a4 c4 x.L) : GoTy.rep h [I x.Op,I x.N,.string x.Name,.slice a3 x.Index.length c3,.slice a4 x.L.length c4] x := by
  classical
  show GNodeRep h _ x
  cases a4 with
  | none => exact .mk x a3 c3 none c4 f3 f4.lc f4.mx f4.nil (fun _ => []) (fun i hi => by have := f4.nil rfl; have := f4.lc; omega) (fun A hA => by cases hA)
  | some A =>
    rcases f4.el A rfl with h2 | ⟨h1,cs,T,fr,hb,he⟩
    · exact .mk x a3 c3 (some A) c4 f3 f4.lc f4.mx f4.nil (fun _ => []) (fun i hi => by rw [h2] at hi; simp at hi) (fun A' hA => .inl h2)
    · exact .mk x a3 c3 (some A) c4 f3 f4.lc f4.mx f4.nil (fun i => if hi : i < x.L.length then Classical.choose (he i hi) else []) (fun i hi => by simp only [hi,dif_pos]; exact (Classical.choose_spec (he i hi)).1) (fun A' hA => by cases hA; exact .inr ⟨h1,cs,T,fr,hb,fun i hi q hq => by simp only [hi,dif_pos]; exact (Classical.choose_spec (he i hi)).2 q hq⟩)
instance : GoTy GStmt where
  sz := 7
  rep h vs x := ∃ (a1 : OA) (c1 : Nat) (a5 : OA) (c5 : Nat) (a6 : OA) (c6 : Nat),vs = [.string x.Name,.slice a1 x.Index.length c1,I x.E.Op,I x.E.N,.string x.E.Name,.slice a5 x.E.Index.length c5,.slice a6 x.E.L.length c6] ∧ SlR h a1 c1 x.Index ∧ SlR h a5 c5 x.E.Index ∧ SlR h a6 c6 x.E.L
  mono hl r := by obtain ⟨a1,c1,a5,c5,a6,c6,e,f1,f5,f6⟩ := r; exact ⟨a1,c1,a5,c5,a6,c6,e,f1.mono hl,f5.mono hl,f6.mono hl⟩
  len r := by obtain ⟨a1,c1,a5,c5,a6,c6,e,f1,f5,f6⟩ := r; rw [e]; rfl
  one r := by obtain ⟨a1,c1,a5,c5,a6,c6,e,f1,f5,f6⟩ := r; rw [e]; rfl
theorem GStmt.out {h : Sto} {vs : List Value} {x : GStmt} (r : GoTy.rep h vs x) : ∃ (a1 : OA) (c1 : Nat) (a5 : OA) (c5 : Nat) (a6 : OA) (c6 : Nat),vs = [.string x.Name,.slice a1 x.Index.length c1,I x.E.Op,I x.E.N,.string x.E.Name,.slice a5 x.E.Index.length c5,.slice a6 x.E.L.length c6] ∧ SlR h a1 c1 x.Index ∧ SlR h a5 c5 x.E.Index ∧ SlR h a6 c6 x.E.L := r
theorem GStmt.into {h : Sto} {x : GStmt} {a1 : OA} {c1 : Nat} {a5 : OA} {c5 : Nat} {a6 : OA} {c6 : Nat} (f1 : SlR h a1 c1 x.Index) (f5 : SlR h a5 c5 x.E.Index) (f6 : SlR h a6 c6 x.E.L) : GoTy.rep h [.string x.Name,.slice a1 x.Index.length c1,I x.E.Op,I x.E.N,.string x.E.Name,.slice a5 x.E.Index.length c5,.slice a6 x.E.L.length c6] x := ⟨a1,c1,a5,c5,a6,c6,rfl,f1,f5,f6⟩
instance : GoTy GProg where
  sz := 2
  rep h vs x := ∃ (a0 : OA) (c0 : Nat) (a1 : OA) (c1 : Nat),vs = [.slice a0 x.D.length c0,.slice a1 x.S.length c1] ∧ SlR h a0 c0 x.D ∧ SlR h a1 c1 x.S
  mono hl r := by obtain ⟨a0,c0,a1,c1,e,f0,f1⟩ := r; exact ⟨a0,c0,a1,c1,e,f0.mono hl,f1.mono hl⟩
  len r := by obtain ⟨a0,c0,a1,c1,e,f0,f1⟩ := r; rw [e]; rfl
  one r := by obtain ⟨a0,c0,a1,c1,e,f0,f1⟩ := r; rw [e]; rfl
theorem GProg.out {h : Sto} {vs : List Value} {x : GProg} (r : GoTy.rep h vs x) : ∃ (a0 : OA) (c0 : Nat) (a1 : OA) (c1 : Nat),vs = [.slice a0 x.D.length c0,.slice a1 x.S.length c1] ∧ SlR h a0 c0 x.D ∧ SlR h a1 c1 x.S := r
theorem GProg.into {h : Sto} {x : GProg} {a0 : OA} {c0 : Nat} {a1 : OA} {c1 : Nat} (f0 : SlR h a0 c0 x.D) (f1 : SlR h a1 c1 x.S) : GoTy.rep h [.slice a0 x.D.length c0,.slice a1 x.S.length c1] x := ⟨a0,c0,a1,c1,rfl,f0,f1⟩
instance : GoTy GToken where
  sz := 3
  rep h vs x := vs = [I x.Kind,.string x.S,I x.N]
  mono _ r := r
  len r := by rw [r]; rfl
  one r := by rw [r]; rfl
theorem GToken.out {h : Sto} {vs : List Value} {x : GToken} (r : GoTy.rep h vs x) : vs = [I x.Kind,.string x.S,I x.N] := r
theorem GToken.into {h : Sto} {x : GToken} : GoTy.rep h [I x.Kind,.string x.S,I x.N] x := rfl
instance : GoTy GSpec where
  sz := 3
  rep h vs x := vs = [I x.Kind,I x.Mode,I x.Size]
  mono _ r := r
  len r := by rw [r]; rfl
  one r := by rw [r]; rfl
theorem GSpec.out {h : Sto} {vs : List Value} {x : GSpec} (r : GoTy.rep h vs x) : vs = [I x.Kind,I x.Mode,I x.Size] := r
theorem GSpec.into {h : Sto} {x : GSpec} : GoTy.rep h [I x.Kind,I x.Mode,I x.Size] x := rfl
instance : GoTy GT152 where
  sz := 2
  rep h vs x := vs = [.bool x.met,I x.block]
  mono _ r := r
  len r := by rw [r]; rfl
  one r := by rw [r]; rfl
theorem GT152.out {h : Sto} {vs : List Value} {x : GT152} (r : GoTy.rep h vs x) : vs = [.bool x.met,I x.block] := r
theorem GT152.into {h : Sto} {x : GT152} : GoTy.rep h [.bool x.met,I x.block] x := rfl
instance : GoTy GModes where
  sz := 8
  rep h vs x := vs = [.bool x.e0.met,I x.e0.block,.bool x.e1.met,I x.e1.block,.bool x.e2.met,I x.e2.block,.bool x.e3.met,I x.e3.block]
  mono _ r := r
  len r := by rw [r]; rfl
  one r := by rw [r]; rfl
theorem GModes.out {h : Sto} {vs : List Value} {x : GModes} (r : GoTy.rep h vs x) : vs = [.bool x.e0.met,I x.e0.block,.bool x.e1.met,I x.e1.block,.bool x.e2.met,I x.e2.block,.bool x.e3.met,I x.e3.block] := r
theorem GModes.into {h : Sto} {x : GModes} : GoTy.rep h [.bool x.e0.met,I x.e0.block,.bool x.e1.met,I x.e1.block,.bool x.e2.met,I x.e2.block,.bool x.e3.met,I x.e3.block] x := rfl
instance : GoTy GDim where
  sz := 2
  rep h vs x := vs = [.string x.Name,I x.Size]
  mono _ r := r
  len r := by rw [r]; rfl
  one r := by rw [r]; rfl
theorem GDim.out {h : Sto} {vs : List Value} {x : GDim} (r : GoTy.rep h vs x) : vs = [.string x.Name,I x.Size] := r
theorem GDim.into {h : Sto} {x : GDim} : GoTy.rep h [.string x.Name,I x.Size] x := rfl
theorem u2 : Try.prog.underlying 2 = some (.int .i64) := by kernel_rfl
theorem u3 : Try.prog.underlying 3 = some (.int .i64) := by kernel_rfl
theorem u4 : Try.prog.underlying 4 = some (.bool) := by kernel_rfl
theorem u5 : Try.prog.underlying 5 = some (.int .u8) := by kernel_rfl
theorem u9 : Try.prog.underlying 9 = some (.string) := by kernel_rfl
theorem u22 : Try.prog.underlying 22 = some (.slice 45) := by kernel_rfl
theorem u23 : Try.prog.underlying 23 = some (.slice 33) := by kernel_rfl
theorem u28 : Try.prog.underlying 28 = some (.slice 9) := by kernel_rfl
theorem u29 : Try.prog.underlying 29 = some (.slice 31) := by kernel_rfl
theorem u34 : Try.prog.underlying 34 = some (.slice 39) := by kernel_rfl
theorem u43 : Try.prog.underlying 43 = some (.slice 3) := by kernel_rfl
theorem u64 : Try.prog.underlying 64 = some (.map 9 4) := by kernel_rfl
theorem u78 : Try.prog.underlying 78 = some (.slice 137) := by kernel_rfl
theorem u87 : Try.prog.underlying 87 = some (.slice 118) := by kernel_rfl
theorem u90 : Try.prog.underlying 90 = some (.slice 87) := by kernel_rfl
theorem u154 : Try.prog.underlying 154 = some (.array 4 152) := by kernel_rfl
theorem u158 : Try.prog.underlying 158 = some (.int .u64) := by kernel_rfl
theorem sc2 : Sc Try.prog 2 := sc_of Try.underlying2 rfl
theorem sc3 : Sc Try.prog 3 := sc_of Try.underlying3 rfl
theorem sc4 : Sc Try.prog 4 := sc_of Try.underlying4 rfl
theorem sc9 : Sc Try.prog 9 := sc_of Try.underlying9 rfl
theorem sc22 : Sc Try.prog 22 := sc_of Try.underlying22 rfl
theorem sc23 : Sc Try.prog 23 := sc_of Try.underlying23 rfl
theorem sc28 : Sc Try.prog 28 := sc_of Try.underlying28 rfl
theorem sc29 : Sc Try.prog 29 := sc_of Try.underlying29 rfl
theorem sc34 : Sc Try.prog 34 := sc_of Try.underlying34 rfl
theorem sc43 : Sc Try.prog 43 := sc_of Try.underlying43 rfl
theorem sc70 : Sc Try.prog 70 := sc_of Try.underlying70 rfl
theorem sc87 : Sc Try.prog 87 := sc_of Try.underlying87 rfl
theorem ag25 : Ag Try.prog 25 := ag_of Try.underlying25 rfl
theorem ag31 : Ag Try.prog 31 := ag_of Try.underlying31 rfl
theorem ag33 : Ag Try.prog 33 := ag_of Try.underlying33 rfl
theorem ag39 : Ag Try.prog 39 := ag_of Try.underlying39 rfl
theorem ag45 : Ag Try.prog 45 := ag_of Try.underlying45 rfl
theorem ag118 : Ag Try.prog 118 := ag_of Try.underlying118 rfl
theorem ag137 : Ag Try.prog 137 := ag_of Try.underlying137 rfl
theorem ag154 : Ag Try.prog 154 := ag_of Try.underlying154 rfl
theorem sz2 : Sz Try.prog 2 1 := sz_of (by kernel_rfl)
theorem sz3 : Sz Try.prog 3 1 := sz_of (by kernel_rfl)
theorem sz4 : Sz Try.prog 4 1 := sz_of (by kernel_rfl)
theorem sz9 : Sz Try.prog 9 1 := sz_of (by kernel_rfl)
theorem sz22 : Sz Try.prog 22 1 := sz_of (by kernel_rfl)
theorem sz23 : Sz Try.prog 23 1 := sz_of (by kernel_rfl)
theorem sz25 : Sz Try.prog 25 2 := sz_of (by kernel_rfl)
theorem sz28 : Sz Try.prog 28 1 := sz_of (by kernel_rfl)
theorem sz29 : Sz Try.prog 29 1 := sz_of (by kernel_rfl)
theorem cX : Sz Try.prog 31 5 := sz_of (by kernel_rfl)
theorem sz33 : Sz Try.prog 33 7 := sz_of (by kernel_rfl)
theorem sz34 : Sz Try.prog 34 1 := sz_of (by kernel_rfl)
theorem sz39 : Sz Try.prog 39 2 := sz_of (by kernel_rfl)
theorem sz43 : Sz Try.prog 43 1 := sz_of (by kernel_rfl)
theorem sz45 : Sz Try.prog 45 4 := sz_of (by kernel_rfl)
theorem sz87 : Sz Try.prog 87 1 := sz_of (by kernel_rfl)
theorem eH : Sz Try.prog 118 3 := sz_of (by kernel_rfl)
theorem sz137 : Sz Try.prog 137 3 := sz_of (by kernel_rfl)
theorem sz152 : Sz Try.prog 152 2 := sz_of (by kernel_rfl)
theorem sz154 : Sz Try.prog 154 8 := sz_of (by kernel_rfl)
theorem zr3 : Zr Try.prog 3 (I 0) := zr_of (by kernel_rfl)
theorem zr9 : Zr Try.prog 9 (.string ByteArray.empty) := zr_of (by kernel_rfl)
theorem zr25 : Zr Try.prog 25 (.agg #[.slice none 0 0,.slice none 0 0]) := zr_of (by kernel_rfl)
theorem zr31 : Zr Try.prog 31 (.agg #[I 0,I 0,.string ByteArray.empty,.slice none 0 0,.slice none 0 0]) := zr_of (by kernel_rfl)
theorem zr33 : Zr Try.prog 33 (.agg #[.string ByteArray.empty,.slice none 0 0,I 0,I 0,.string ByteArray.empty,.slice none 0 0,.slice none 0 0]) := zr_of (by kernel_rfl)
theorem zr39 : Zr Try.prog 39 (.agg #[.string ByteArray.empty,I 0]) := zr_of (by kernel_rfl)
theorem zr45 : Zr Try.prog 45 (.agg #[.string ByteArray.empty,.slice none 0 0,.string ByteArray.empty,I 0]) := zr_of (by kernel_rfl)
theorem zr72 : Zr Try.prog 72 (.agg #[.slice none 0 0,.slice none 0 0]) := zr_of (by kernel_rfl)
theorem zr78 : Zr Try.prog 78 (.slice none 0 0) := zr_of (by kernel_rfl)
theorem zr87 : Zr Try.prog 87 (.slice none 0 0) := zr_of (by kernel_rfl)
theorem zr94 : Zr Try.prog 94 (.agg #[.slice none 0 0]) := zr_of (by kernel_rfl)
theorem zr96 : Zr Try.prog 96 (.agg #[.slice none 0 0,.bool false]) := zr_of (by kernel_rfl)
theorem zr118 : Zr Try.prog 118 (.agg #[I 0,.string ByteArray.empty,I 0]) := zr_of (by kernel_rfl)
theorem zr137 : Zr Try.prog 137 (.agg #[I 0,I 0,I 0]) := zr_of (by kernel_rfl)
theorem zr154 : Zr Try.prog 154 (.agg #[.bool false,I 0,.bool false,I 0,.bool false,I 0,.bool false,I 0]) := zr_of (by kernel_rfl)
theorem fl25_0 : Fl Try.prog 25 0 0 := fI (by kernel_rfl)
theorem fl25_1 : Fl Try.prog 25 1 1 := fI (by kernel_rfl)
theorem fl31_0 : Fl Try.prog 31 0 0 := fI (by kernel_rfl)
theorem fl31_1 : Fl Try.prog 31 1 1 := fI (by kernel_rfl)
theorem fl31_2 : Fl Try.prog 31 2 2 := fI (by kernel_rfl)
theorem fl31_3 : Fl Try.prog 31 3 3 := fI (by kernel_rfl)
theorem fl31_4 : Fl Try.prog 31 4 4 := fI (by kernel_rfl)
theorem fl33_0 : Fl Try.prog 33 0 0 := fI (by kernel_rfl)
theorem fl33_1 : Fl Try.prog 33 1 1 := fI (by kernel_rfl)
theorem fl33_2 : Fl Try.prog 33 2 2 := fI (by kernel_rfl)
theorem fl39_0 : Fl Try.prog 39 0 0 := fI (by kernel_rfl)
theorem fl39_1 : Fl Try.prog 39 1 1 := fI (by kernel_rfl)
theorem fl45_0 : Fl Try.prog 45 0 0 := fI (by kernel_rfl)
theorem fl45_1 : Fl Try.prog 45 1 1 := fI (by kernel_rfl)
theorem fl45_2 : Fl Try.prog 45 2 2 := fI (by kernel_rfl)
theorem fl45_3 : Fl Try.prog 45 3 3 := fI (by kernel_rfl)
theorem fl72_0 : Fl Try.prog 72 0 0 := fI (by kernel_rfl)
theorem fl72_1 : Fl Try.prog 72 1 1 := fI (by kernel_rfl)
theorem fl94_0 : Fl Try.prog 94 0 0 := fI (by kernel_rfl)
theorem fl96_0 : Fl Try.prog 96 0 0 := fI (by kernel_rfl)
theorem fl96_1 : Fl Try.prog 96 1 1 := fI (by kernel_rfl)
theorem fl118_0 : Fl Try.prog 118 0 0 := fI (by kernel_rfl)
theorem fl118_1 : Fl Try.prog 118 1 1 := fI (by kernel_rfl)
theorem fl118_2 : Fl Try.prog 118 2 2 := fI (by kernel_rfl)
theorem fl137_0 : Fl Try.prog 137 0 0 := fI (by kernel_rfl)
theorem fl137_1 : Fl Try.prog 137 1 1 := fI (by kernel_rfl)
theorem fl137_2 : Fl Try.prog 137 2 2 := fI (by kernel_rfl)
theorem fl152_0 : Fl Try.prog 152 0 0 := fI (by kernel_rfl)
theorem fl152_1 : Fl Try.prog 152 1 1 := fI (by kernel_rfl)
theorem bd25 : Bd Try.prog 25 [.slice none 0 0,.slice none 0 0] [(0,1),(1,1)] := bd_of zr25 (by kernel_rfl) (by kernel_rfl)
theorem bd31 : Bd Try.prog 31 [I 0,I 0,.string ByteArray.empty,.slice none 0 0,.slice none 0 0] [(0,1),(1,1),(2,1),(3,1),(4,1)] := bd_of zr31 (by kernel_rfl) (by kernel_rfl)
theorem bd39 : Bd Try.prog 39 [.string ByteArray.empty,I 0] [(0,1),(1,1)] := bd_of zr39 (by kernel_rfl) (by kernel_rfl)
theorem bd45 : Bd Try.prog 45 [.string ByteArray.empty,.slice none 0 0,.string ByteArray.empty,I 0] [(0,1),(1,1),(2,1),(3,1)] := bd_of zr45 (by kernel_rfl) (by kernel_rfl)
theorem bd72 : Bd Try.prog 72 [.slice none 0 0,.slice none 0 0] [(0,1),(1,1)] := bd_of zr72 (by kernel_rfl) (by kernel_rfl)
theorem bd94 : Bd Try.prog 94 [.slice none 0 0] [(0,1)] := bd_of zr94 (by kernel_rfl) (by kernel_rfl)
theorem bd96 : Bd Try.prog 96 [.slice none 0 0,.bool false] [(0,1),(1,1)] := bd_of zr96 (by kernel_rfl) (by kernel_rfl)
theorem bd118 : Bd Try.prog 118 [I 0,.string ByteArray.empty,I 0] [(0,1),(1,1),(2,1)] := bd_of zr118 (by kernel_rfl) (by kernel_rfl)
theorem bd137 : Bd Try.prog 137 [I 0,I 0,I 0] [(0,1),(1,1),(2,1)] := bd_of zr137 (by kernel_rfl) (by kernel_rfl)
theorem ap3 : ApT Try.prog 3 1 8 (I 0) := ⟨sz3,zr3,by_of (by kernel_rfl),by decide,by decide,rfl⟩
theorem ap9 : ApT Try.prog 9 1 16 (.string ByteArray.empty) := ⟨sz9,zr9,by_of (by kernel_rfl),by decide,by decide,rfl⟩
theorem ap31 : ApT Try.prog 31 5 80 (.agg #[I 0,I 0,.string ByteArray.empty,.slice none 0 0,.slice none 0 0]) := ⟨cX,zr31,by_of (by kernel_rfl),by decide,by decide,rfl⟩
theorem ap33 : ApT Try.prog 33 7 120 (.agg #[.string ByteArray.empty,.slice none 0 0,I 0,I 0,.string ByteArray.empty,.slice none 0 0,.slice none 0 0]) := ⟨sz33,zr33,by_of (by kernel_rfl),by decide,by decide,rfl⟩
theorem ap39 : ApT Try.prog 39 2 24 (.agg #[.string ByteArray.empty,I 0]) := ⟨sz39,zr39,by_of (by kernel_rfl),by decide,by decide,rfl⟩
theorem ap45 : ApT Try.prog 45 4 64 (.agg #[.string ByteArray.empty,.slice none 0 0,.string ByteArray.empty,I 0]) := ⟨sz45,zr45,by_of (by kernel_rfl),by decide,by decide,rfl⟩
theorem ap87 : ApT Try.prog 87 1 24 (.slice none 0 0) := ⟨sz87,zr87,by_of (by kernel_rfl),by decide,by decide,rfl⟩
theorem ap118 : ApT Try.prog 118 3 32 (.agg #[I 0,.string ByteArray.empty,I 0]) := ⟨eH,zr118,by_of (by kernel_rfl),by decide,by decide,rfl⟩
theorem ap137 : ApT Try.prog 137 3 24 (.agg #[I 0,I 0,I 0]) := ⟨sz137,zr137,by_of (by kernel_rfl),by decide,by decide,rfl⟩
theorem en8 : En Try.prog 8 := cO Try.func8 (by kernel_rfl) (by kernel_rfl)
theorem en9 : En Try.prog 9 := cO Try.func9 (by kernel_rfl) (by kernel_rfl)
theorem en10 : En Try.prog 10 := cO Try.func10 (by kernel_rfl) (by kernel_rfl)
theorem en11 : En Try.prog 11 := cO Try.func11 (by kernel_rfl) (by kernel_rfl)
theorem en12 : En Try.prog 12 := cO Try.func12 (by kernel_rfl) (by kernel_rfl)
theorem en13 : En Try.prog 13 := cO Try.func13 (by kernel_rfl) (by kernel_rfl)
theorem en14 : En Try.prog 14 := cO Try.func14 (by kernel_rfl) (by kernel_rfl)
theorem en15 : En Try.prog 15 := cO Try.func15 (by kernel_rfl) (by kernel_rfl)
theorem en17 : En Try.prog 17 := cO Try.func17 (by kernel_rfl) (by kernel_rfl)
theorem en18 : En Try.prog 18 := cO Try.func18 (by kernel_rfl) (by kernel_rfl)
theorem en21 : En Try.prog 21 := cO Try.func21 (by kernel_rfl) (by kernel_rfl)
theorem en24 : En Try.prog 24 := cO Try.func24 (by kernel_rfl) (by kernel_rfl)
theorem en25 : En Try.prog 25 := cO Try.func25 (by kernel_rfl) (by kernel_rfl)
theorem en26 : En Try.prog 26 := cO Try.func26 (by kernel_rfl) (by kernel_rfl)
theorem en27 : En Try.prog 27 := cO Try.func27 (by kernel_rfl) (by kernel_rfl)
theorem en28 : En Try.prog 28 := cO Try.func28 (by kernel_rfl) (by kernel_rfl)
theorem en29 : En Try.prog 29 := cO Try.func29 (by kernel_rfl) (by kernel_rfl)
theorem en30 : En Try.prog 30 := cO Try.func30 (by kernel_rfl) (by kernel_rfl)
theorem en31 : En Try.prog 31 := cO Try.func31 (by kernel_rfl) (by kernel_rfl)
theorem en32 : En Try.prog 32 := cO Try.func32 (by kernel_rfl) (by kernel_rfl)
theorem en33 : En Try.prog 33 := cO Try.func33 (by kernel_rfl) (by kernel_rfl)
theorem en34 : En Try.prog 34 := cO Try.func34 (by kernel_rfl) (by kernel_rfl)
theorem en35 : En Try.prog 35 := cO Try.func35 (by kernel_rfl) (by kernel_rfl)
theorem en38 : En Try.prog 38 := cO Try.func38 (by kernel_rfl) (by kernel_rfl)
theorem en40 : En Try.prog 40 := cO Try.func40 (by kernel_rfl) (by kernel_rfl)
theorem en41 : En Try.prog 41 := cO Try.func41 (by kernel_rfl) (by kernel_rfl)
theorem en42 : En Try.prog 42 := cO Try.func42 (by kernel_rfl) (by kernel_rfl)
theorem en43 : En Try.prog 43 := cO Try.func43 (by kernel_rfl) (by kernel_rfl)
theorem en44 : En Try.prog 44 := cO Try.func44 (by kernel_rfl) (by kernel_rfl)
theorem en45 : En Try.prog 45 := cO Try.func45 (by kernel_rfl) (by kernel_rfl)
theorem en46 : En Try.prog 46 := cO Try.func46 (by kernel_rfl) (by kernel_rfl)
theorem en47 : En Try.prog 47 := cO Try.func47 (by kernel_rfl) (by kernel_rfl)
theorem en48 : En Try.prog 48 := cO Try.func48 (by kernel_rfl) (by kernel_rfl)
theorem en49 : En Try.prog 49 := cO Try.func49 (by kernel_rfl) (by kernel_rfl)
theorem en50 : En Try.prog 50 := cO Try.func50 (by kernel_rfl) (by kernel_rfl)
theorem en51 : En Try.prog 51 := cO Try.func51 (by kernel_rfl) (by kernel_rfl)
theorem en52 : En Try.prog 52 := cO Try.func52 (by kernel_rfl) (by kernel_rfl)
theorem en53 : En Try.prog 53 := cO Try.func53 (by kernel_rfl) (by kernel_rfl)
theorem en54 : En Try.prog 54 := cO Try.func54 (by kernel_rfl) (by kernel_rfl)
theorem en55 : En Try.prog 55 := cO Try.func55 (by kernel_rfl) (by kernel_rfl)
theorem en56 : En Try.prog 56 := cO Try.func56 (by kernel_rfl) (by kernel_rfl)
theorem en57 : En Try.prog 57 := cO Try.func57 (by kernel_rfl) (by kernel_rfl)
theorem en58 : En Try.prog 58 := cO Try.func58 (by kernel_rfl) (by kernel_rfl)
theorem en59 : En Try.prog 59 := cO Try.func59 (by kernel_rfl) (by kernel_rfl)
theorem en60 : En Try.prog 60 := cO Try.func60 (by kernel_rfl) (by kernel_rfl)
theorem en61 : En Try.prog 61 := cO Try.func61 (by kernel_rfl) (by kernel_rfl)
theorem en62 : En Try.prog 62 := cO Try.func62 (by kernel_rfl) (by kernel_rfl)
theorem en63 : En Try.prog 63 := cO Try.func63 (by kernel_rfl) (by kernel_rfl)
theorem en64 : En Try.prog 64 := cO Try.func64 (by kernel_rfl) (by kernel_rfl)
theorem en65 : En Try.prog 65 := cO Try.func65 (by kernel_rfl) (by kernel_rfl)
theorem en66 : En Try.prog 66 := cO Try.func66 (by kernel_rfl) (by kernel_rfl)
theorem en67 : En Try.prog 67 := cO Try.func67 (by kernel_rfl) (by kernel_rfl)
theorem en68 : En Try.prog 68 := cO Try.func68 (by kernel_rfl) (by kernel_rfl)
theorem en69 : En Try.prog 69 := cO Try.func69 (by kernel_rfl) (by kernel_rfl)
theorem en70 : En Try.prog 70 := cO Try.func70 (by kernel_rfl) (by kernel_rfl)
theorem en71 : En Try.prog 71 := cO Try.func71 (by kernel_rfl) (by kernel_rfl)
theorem en72 : En Try.prog 72 := cO Try.func72 (by kernel_rfl) (by kernel_rfl)
theorem en73 : En Try.prog 73 := cO Try.func73 (by kernel_rfl) (by kernel_rfl)
theorem en74 : En Try.prog 74 := cO Try.func74 (by kernel_rfl) (by kernel_rfl)
theorem en75 : En Try.prog 75 := cO Try.func75 (by kernel_rfl) (by kernel_rfl)
theorem en76 : En Try.prog 76 := cO Try.func76 (by kernel_rfl) (by kernel_rfl)
theorem en77 : En Try.prog 77 := cO Try.func77 (by kernel_rfl) (by kernel_rfl)
theorem en78 : En Try.prog 78 := cO Try.func78 (by kernel_rfl) (by kernel_rfl)
theorem en79 : En Try.prog 79 := cO Try.func79 (by kernel_rfl) (by kernel_rfl)
theorem en80 : En Try.prog 80 := cO Try.func80 (by kernel_rfl) (by kernel_rfl)
theorem en81 : En Try.prog 81 := cO Try.func81 (by kernel_rfl) (by kernel_rfl)
theorem en82 : En Try.prog 82 := cO Try.func82 (by kernel_rfl) (by kernel_rfl)
theorem en83 : En Try.prog 83 := cO Try.func83 (by kernel_rfl) (by kernel_rfl)
theorem en84 : En Try.prog 84 := cO Try.func84 (by kernel_rfl) (by kernel_rfl)
theorem en85 : En Try.prog 85 := cO Try.func85 (by kernel_rfl) (by kernel_rfl)
theorem en86 : En Try.prog 86 := cO Try.func86 (by kernel_rfl) (by kernel_rfl)
theorem en87 : En Try.prog 87 := cO Try.func87 (by kernel_rfl) (by kernel_rfl)
theorem en88 : En Try.prog 88 := cO Try.func88 (by kernel_rfl) (by kernel_rfl)
theorem en89 : En Try.prog 89 := cO Try.func89 (by kernel_rfl) (by kernel_rfl)
theorem en90 : En Try.prog 90 := cO Try.func90 (by kernel_rfl) (by kernel_rfl)
theorem en91 : En Try.prog 91 := cO Try.func91 (by kernel_rfl) (by kernel_rfl)
theorem en92 : En Try.prog 92 := cO Try.func92 (by kernel_rfl) (by kernel_rfl)
theorem en93 : En Try.prog 93 := cO Try.func93 (by kernel_rfl) (by kernel_rfl)
theorem en94 : En Try.prog 94 := cO Try.func94 (by kernel_rfl) (by kernel_rfl)
theorem en96 : En Try.prog 96 := cO Try.func96 (by kernel_rfl) (by kernel_rfl)
theorem en97 : En Try.prog 97 := cO Try.func97 (by kernel_rfl) (by kernel_rfl)
theorem en98 : En Try.prog 98 := cO Try.func98 (by kernel_rfl) (by kernel_rfl)
theorem en99 : En Try.prog 99 := cO Try.func99 (by kernel_rfl) (by kernel_rfl)
theorem en100 : En Try.prog 100 := cO Try.func100 (by kernel_rfl) (by kernel_rfl)
theorem en101 : En Try.prog 101 := cO Try.func101 (by kernel_rfl) (by kernel_rfl)
theorem xb95 : Xb Try.prog 95 := xb_of Try.func95 (by kernel_rfl) (by kernel_rfl) (by kernel_rfl) (by kernel_rfl)
theorem ft118_0 : Ft Try.prog 118 0 0 3 := ft_of (by kernel_rfl)
theorem ft118_1 : Ft Try.prog 118 1 1 9 := ft_of (by kernel_rfl)
theorem ft118_2 : Ft Try.prog 118 2 2 2 := ft_of (by kernel_rfl)
theorem mt140 : MT ByteArray Try.prog 140 9 78 (.string) := ⟨by kernel_rfl,by kernel_rfl,rfl⟩
theorem mt148 : MT ByteArray Try.prog 148 9 3 (.string) := ⟨by kernel_rfl,by kernel_rfl,rfl⟩
abbrev Q86 (w0 : World) (h0 : Sto) (r : Int) : Value → World → Prop := fun v w' => ∃ (h' : Sto),v = I r ∧ St w0 noM h0 h' w'
abbrev S86 : Prop := ∀ {p0 : ByteArray} {p1 : Int} {w0 : World} {h0 : Sto},Has h0 w0 → ∀ {r : Int},m86 p0 p1 = some r → Calls Try.prog 86 (List.toArray [.string p0,.int .u8 p1]) w0 (Ret (Q86 w0 h0 r))
abbrev Q63 (w0 : World) (h0 : Sto) (r : Int) : Value → World → Prop := fun v w' => ∃ (h' : Sto),v = I r ∧ St w0 noM h0 h' w'
abbrev S63 : Prop := ∀ {p0 : ByteArray} {p1 : Int} {w0 : World} {h0 : Sto},Has h0 w0 → ∀ {r : Int},m63 p0 p1 = some r → Calls Try.prog 63 (List.toArray [.string p0,.int .u8 p1]) w0 (Ret (Q63 w0 h0 r))
abbrev Q62 (w0 : World) (h0 : Sto) (r : Int) : Value → World → Prop := fun v w' => ∃ (h' : Sto),v = I r ∧ St w0 noM h0 h' w'
abbrev S62 : Prop := ∀ {p0 : Int} {w0 : World} {h0 : Sto},Has h0 w0 → ∀ {r : Int},m62 p0 = some r → Calls Try.prog 62 (List.toArray [.int .u8 p0]) w0 (Ret (Q62 w0 h0 r))
abbrev Q64 (w0 : World) (h0 : Sto) (r : Int) : Value → World → Prop := fun v w' => ∃ (h' : Sto),v = I r ∧ St w0 noM h0 h' w'
abbrev S64 (k : Nat) : Prop := ∀ {p0 : ByteArray} {w0 : World} {h0 : Sto},Has h0 w0 → ∀ {r : Int},m64 k p0 = some r → Calls Try.prog 64 (List.toArray [.string p0]) w0 (Ret (Q64 w0 h0 r))
abbrev SLl64_0 (k : Nat) : Prop := ∀ {p0 : ByteArray} {w0 w : World} {h0 h : Sto} {σ : Env} {i1 : Int} {r : Int},St w0 noM h0 h w → σ 0 = .string p0 → σ 3 = I i1 → l64_0 k p0 i1 = some r → Run X64 [.code c64_7,.inLoop c64_7,.inBlock 0,.code c64_15] σ w (.fn (Q64 w0 h0 r))
abbrev Q48 (w0 : World) (h0 : Sto) (r : Bool) : Value → World → Prop := fun v w' => ∃ (h' : Sto),v = .bool r ∧ St w0 noM h0 h' w'
abbrev S48 (k : Nat) : Prop := ∀ {p0 : ByteArray} {w0 : World} {h0 : Sto},Has h0 w0 → ∀ {r : Bool},m48 k p0 = some r → Calls Try.prog 48 (List.toArray [.string p0]) w0 (Ret (Q48 w0 h0 r))
abbrev Q87 (w0 : World) (h0 : Sto) (r : Int × Bool) : Value → World → Prop := fun v w' => ∃ (h' : Sto),v = .tuple #[I r.1,.bool r.2] ∧ St w0 noM h0 h' w'
abbrev S87 (k : Nat) : Prop := ∀ {p0 : ByteArray} {w0 : World} {h0 : Sto},Has h0 w0 → ∀ {r : Int × Bool},m87 k p0 = some r → Calls Try.prog 87 (List.toArray [.string p0]) w0 (Ret (Q87 w0 h0 r))
abbrev SLl87_0 (k : Nat) : Prop := ∀ {p0 : ByteArray} {w0 w : World} {h0 h : Sto} {σ : Env} {i1 i2 : Int} {r : Int × Bool},St w0 noM h0 h w → σ 0 = .string p0 → σ 2 = I i1 → σ 23 = I (p0.size : Int) → σ 24 = I i2 → l87_0 k p0 i1 i2 = some r → Run X87 [.code c87_15,.inLoop c87_15,.inBlock 0,.code c87_35] σ w (.fn (Q87 w0 h0 r))
abbrev Q65 (w0 : World) (h0 : Sto) (r : GToken × Bool) : Value → World → Prop := fun v w' => ∃ (h' : Sto),v = .tuple #[.agg #[I r.1.Kind,.string r.1.S,I r.1.N],.bool r.2] ∧ St w0 noM h0 h' w'
abbrev S65 (k : Nat) : Prop := ∀ {p0 : ByteArray} {w0 : World} {h0 : Sto},Has h0 w0 → ∀ {r : GToken × Bool},m65 k p0 = some r → Calls Try.prog 65 (List.toArray [.string p0]) w0 (Ret (Q65 w0 h0 r))
abbrev Q40 (w0 : World) (h0 : Sto) (r : (List GToken) × Int × Int) : Value → World → Prop := fun v w' => ∃ (a1 : OA) (c2 : Nat) (h' : Sto),v = .tuple #[.slice a1 r.1.length c2,I r.2.1,I r.2.2] ∧ St w0 noM h0 h' w' ∧ SlR h' a1 c2 r.1
abbrev S40 (k : Nat) : Prop := ∀ {p0 : ByteArray} {w0 : World} {h0 : Sto},Has h0 w0 → ∀ {r : (List GToken) × Int × Int},m40 k p0 = some r → Calls Try.prog 40 (List.toArray [.string p0]) w0 (Ret (Q40 w0 h0 r))
abbrev SLl40_0 (k : Nat) : Prop := ∀ {p0 : ByteArray} {w0 w : World} {h0 h : Sto} {σ : Env} {l1 : (List GToken)} {a1 : OA} {c1 : Nat} {b1 : Bool} {i1 : Int} {r : (List GToken) × Int × Int},St w0 noM h0 h w → σ 0 = .string p0 → σ 5 = .slice a1 l1.length c1 → σ 6 = .bool b1 → σ 7 = I i1 → Own 118 w0.heap.size h w a1 c1 l1 → l40_0 k p0 l1 b1 i1 = some r → Run X40 [.code c40_22,.inLoop c40_22,.inBlock 0,.code c40_91,.inScope c40_3] σ w (.fn (Q40 w0 h0 r))
abbrev Q67 (w0 : World) (h0 : Sto) (r : Bool) : Value → World → Prop := fun v w' => ∃ (h' : Sto),v = .bool r ∧ St w0 noM h0 h' w'
abbrev S67 : Prop := ∀ {p0 : GToken} {w0 : World} {h0 : Sto},Has h0 w0 → ∀ {r : Bool},m67 p0 = some r → Calls Try.prog 67 (List.toArray [.agg #[I p0.Kind,.string p0.S,I p0.N]]) w0 (Ret (Q67 w0 h0 r))
abbrev Q66 (w0 : World) (h0 : Sto) (r : Int) : Value → World → Prop := fun v w' => ∃ (h' : Sto),v = I r ∧ St w0 noM h0 h' w'
abbrev S66 (k : Nat) : Prop := ∀ {p0 : (List GToken)} {bA : OA} {bC : Nat} {w0 : World} {h0 : Sto},Has h0 w0 → SlR h0 bA bC p0 → ∀ {r : Int},m66 k p0 = some r → Calls Try.prog 66 (List.toArray [.slice bA p0.length bC,.func (.func 67) #[] #[]]) w0 (Ret (Q66 w0 h0 r))
abbrev SLl66_0 (k : Nat) : Prop := ∀ {p0 : (List GToken)} {bA : OA} {bC j1 : Nat} {w0 w : World} {h0 h : Sto} {σ : Env} {xs1 : List GToken} {r : Int},St w0 noM h0 h w → σ 0 = .slice bA p0.length bC → σ 1 = .func (.func 67) #[] #[] → σ 7 = I (p0.length : Int) → σ 8 = I (j1 : Int) → SlR h bA bC p0 → p0.drop j1 = xs1 → l66_0 k j1 xs1 = some r → Run X66 [.code c66_7,.inLoop c66_7,.inBlock 0,.code c66_25] σ w (.fn (Q66 w0 h0 r))
abbrev Q68 (w0 : World) (h0 : Sto) (r : (List GToken)) : Value → World → Prop := fun v w' => ∃ (a1 : OA) (c2 : Nat) (h' : Sto),v = .slice a1 r.length c2 ∧ St w0 noM h0 h' w' ∧ Own 118 w0.heap.size h' w' a1 c2 r
abbrev S68 : Prop := ∀ {p0 : (List GToken)} {bA : OA} {bC : Nat} {w0 : World} {h0 : Sto},Has h0 w0 → SlR h0 bA bC p0 → ∀ {r : (List GToken)},cl p0 = some r → Calls Try.prog 68 (List.toArray [.slice bA p0.length bC]) w0 (Ret (Q68 w0 h0 r))
abbrev Q41 (w0 : World) (h0 : Sto) (r : (List (List GToken))) : Value → World → Prop := fun v w' => ∃ (a1 : OA) (c2 : Nat) (h' : Sto),v = .slice a1 r.length c2 ∧ St w0 noM h0 h' w' ∧ SlR h' a1 c2 r
abbrev S41 (k : Nat) : Prop := ∀ {p0 : (List GToken)} {bA : OA} {bC : Nat} {w0 : World} {h0 : Sto},Has h0 w0 → SlR h0 bA bC p0 → ∀ {r : (List (List GToken))},m41 k p0 = some r → Calls Try.prog 41 (List.toArray [.slice bA p0.length bC]) w0 (Ret (Q41 w0 h0 r))
abbrev SLl41_0 (k : Nat) : Prop := ∀ {w0 w : World} {h0 h : Sto} {σ : Env} {l1 : (List GToken)} {a1 a2 : OA} {c1 c2 : Nat} {l2 : (List (List GToken))} {r : (List (List GToken))},St w0 noM h0 h w → σ 0 = .slice a1 l1.length c1 → σ 3 = .slice a2 l2.length c2 → SlR h a1 c1 l1 → Own 87 w0.heap.size h w a2 c2 l2 → l41_0 k l1 l2 = some r → Run X41 [.code c41_7,.inLoop c41_7,.inBlock 0,.code c41_33] σ w (.fn (Q41 w0 h0 r))
abbrev Q69 (w0 : World) (h0 : Sto) (aS : Nat) (r : GToken × (List GToken) × Bool) : Value → World → Prop := fun v w' => ∃ (a1 : OA) (c2 : Nat) (h' : Sto),v = .agg #[I r.1.Kind,.string r.1.S,I r.1.N] ∧ St w0 (fun x => x = aS) h0 h' w' ∧ SlR h' a1 c2 r.2.1 ∧ Mut h' w' aS (.cells (List.toArray [.slice a1 r.2.1.length c2,.bool r.2.2]) 96 (0,0))
abbrev S69 : Prop := ∀ {aS bW : Nat} {cJ : (List GToken)} {bX : OA} {cW : Bool} {w0 : World} {h0 : Sto},Has h0 w0 → SlR h0 bX bW cJ → Mut h0 w0 aS (.cells (List.toArray [.slice bX cJ.length bW,.bool cW]) 96 (0,0)) → ∀ {r : GToken × (List GToken) × Bool},m69 cJ cW = some r → Calls Try.prog 69 (List.toArray [.pointer (some ⟨aS,0,none⟩)]) w0 (Ret (Q69 w0 h0 aS r))
abbrev Q42 (w0 : World) (h0 : Sto) (aS : Nat) (r : Bool × (List GToken) × Bool) : Value → World → Prop := fun v w' => ∃ (a1 : OA) (c2 : Nat) (h' : Sto),v = .bool r.1 ∧ St w0 (fun x => x = aS) h0 h' w' ∧ SlR h' a1 c2 r.2.1 ∧ Mut h' w' aS (.cells (List.toArray [.slice a1 r.2.1.length c2,.bool r.2.2]) 96 (0,0))
abbrev S42 : Prop := ∀ {aS bW : Nat} {cJ : (List GToken)} {bX : OA} {cW : Bool} {p1 : ByteArray} {w0 : World} {h0 : Sto},Has h0 w0 → SlR h0 bX bW cJ → Mut h0 w0 aS (.cells (List.toArray [.slice bX cJ.length bW,.bool cW]) 96 (0,0)) → ∀ {r : Bool × (List GToken) × Bool},m42 cJ cW p1 = some r → Calls Try.prog 42 (List.toArray [.pointer (some ⟨aS,0,none⟩),.string p1]) w0 (Ret (Q42 w0 h0 aS r))
abbrev Q88 (w0 : World) (h0 : Sto) (aS : Nat) (r : Bool × (List GToken) × Bool) : Value → World → Prop := fun v w' => ∃ (a1 : OA) (c2 : Nat) (h' : Sto),v = .bool r.1 ∧ St w0 (fun x => x = aS) h0 h' w' ∧ SlR h' a1 c2 r.2.1 ∧ Mut h' w' aS (.cells (List.toArray [.slice a1 r.2.1.length c2,.bool r.2.2]) 96 (0,0))
abbrev S88 : Prop := ∀ {aS bW : Nat} {cJ : (List GToken)} {bX : OA} {cW : Bool} {p1 : ByteArray} {w0 : World} {h0 : Sto},Has h0 w0 → SlR h0 bX bW cJ → Mut h0 w0 aS (.cells (List.toArray [.slice bX cJ.length bW,.bool cW]) 96 (0,0)) → ∀ {r : Bool × (List GToken) × Bool},m88 cJ cW p1 = some r → Calls Try.prog 88 (List.toArray [.pointer (some ⟨aS,0,none⟩),.string p1]) w0 (Ret (Q88 w0 h0 aS r))
abbrev Q70 (w0 : World) (h0 : Sto) (aS : Nat) (r : (List GToken) × Bool) : Value → World → Prop := fun v w' => ∃ (a1 : OA) (c2 : Nat) (h' : Sto),v = .tuple #[] ∧ St w0 (fun x => x = aS) h0 h' w' ∧ SlR h' a1 c2 r.1 ∧ Mut h' w' aS (.cells (List.toArray [.slice a1 r.1.length c2,.bool r.2]) 96 (0,0))
abbrev S70 : Prop := ∀ {aS bW : Nat} {cJ : (List GToken)} {bX : OA} {cW : Bool} {p1 : ByteArray} {w0 : World} {h0 : Sto},Has h0 w0 → SlR h0 bX bW cJ → Mut h0 w0 aS (.cells (List.toArray [.slice bX cJ.length bW,.bool cW]) 96 (0,0)) → ∀ {r : (List GToken) × Bool},m70 cJ cW p1 = some r → Calls Try.prog 70 (List.toArray [.pointer (some ⟨aS,0,none⟩),.string p1]) w0 (Ret (Q70 w0 h0 aS r))
abbrev Q74 (w0 : World) (h0 : Sto) (aS : Nat) (r : GToken × (List GToken) × Bool) : Value → World → Prop := fun v w' => ∃ (a1 : OA) (c2 : Nat) (h' : Sto),v = .agg #[I r.1.Kind,.string r.1.S,I r.1.N] ∧ St w0 (fun x => x = aS) h0 h' w' ∧ SlR h' a1 c2 r.2.1 ∧ Mut h' w' aS (.cells (List.toArray [.slice a1 r.2.1.length c2,.bool r.2.2]) 96 (0,0))
abbrev S74 : Prop := ∀ {aS bW : Nat} {cJ : (List GToken)} {bX : OA} {cW : Bool} {p1 : Int} {w0 : World} {h0 : Sto},Has h0 w0 → SlR h0 bX bW cJ → Mut h0 w0 aS (.cells (List.toArray [.slice bX cJ.length bW,.bool cW]) 96 (0,0)) → ∀ {r : GToken × (List GToken) × Bool},m74 cJ cW p1 = some r → Calls Try.prog 74 (List.toArray [.pointer (some ⟨aS,0,none⟩),I p1]) w0 (Ret (Q74 w0 h0 aS r))
abbrev Q46 (w0 : World) (h0 : Sto) (r : Bool) : Value → World → Prop := fun v w' => ∃ (h' : Sto),v = .bool r ∧ St w0 noM h0 h' w'
abbrev S46 (k : Nat) : Prop := ∀ {p0 : ByteArray} {w0 : World} {h0 : Sto},Has h0 w0 → ∀ {r : Bool},m46 k p0 = some r → Calls Try.prog 46 (List.toArray [.string p0]) w0 (Ret (Q46 w0 h0 r))
abbrev Q71 (w0 : World) (h0 : Sto) (aS : Nat) (r : ByteArray × (List GToken) × Bool) : Value → World → Prop := fun v w' => ∃ (a1 : OA) (c2 : Nat) (h' : Sto),v = .string r.1 ∧ St w0 (fun x => x = aS) h0 h' w' ∧ SlR h' a1 c2 r.2.1 ∧ Mut h' w' aS (.cells (List.toArray [.slice a1 r.2.1.length c2,.bool r.2.2]) 96 (0,0))
abbrev S71 (k : Nat) : Prop := ∀ {aS bW : Nat} {cJ : (List GToken)} {bX : OA} {cW : Bool} {w0 : World} {h0 : Sto},Has h0 w0 → SlR h0 bX bW cJ → Mut h0 w0 aS (.cells (List.toArray [.slice bX cJ.length bW,.bool cW]) 96 (0,0)) → ∀ {r : ByteArray × (List GToken) × Bool},m71 k cJ cW = some r → Calls Try.prog 71 (List.toArray [.pointer (some ⟨aS,0,none⟩)]) w0 (Ret (Q71 w0 h0 aS r))
abbrev Q73 (w0 : World) (h0 : Sto) (aS : Nat) (r : Int × (List GToken) × Bool) : Value → World → Prop := fun v w' => ∃ (a1 : OA) (c2 : Nat) (h' : Sto),v = I r.1 ∧ St w0 (fun x => x = aS) h0 h' w' ∧ SlR h' a1 c2 r.2.1 ∧ Mut h' w' aS (.cells (List.toArray [.slice a1 r.2.1.length c2,.bool r.2.2]) 96 (0,0))
abbrev S73 : Prop := ∀ {aS bW : Nat} {cJ : (List GToken)} {bX : OA} {cW : Bool} {w0 : World} {h0 : Sto},Has h0 w0 → SlR h0 bX bW cJ → Mut h0 w0 aS (.cells (List.toArray [.slice bX cJ.length bW,.bool cW]) 96 (0,0)) → ∀ {r : Int × (List GToken) × Bool},m73 cJ cW = some r → Calls Try.prog 73 (List.toArray [.pointer (some ⟨aS,0,none⟩)]) w0 (Ret (Q73 w0 h0 aS r))
abbrev Q72 (w0 : World) (h0 : Sto) (aS : Nat) (r : (List Int) × (List GToken) × Bool) : Value → World → Prop := fun v w' => ∃ (a1 : OA) (c2 : Nat) (a4 : OA) (c5 : Nat) (h' : Sto),v = .slice a1 r.1.length c2 ∧ St w0 (fun x => x = aS) h0 h' w' ∧ SlR h' a1 c2 r.1 ∧ SlR h' a4 c5 r.2.1 ∧ Mut h' w' aS (.cells (List.toArray [.slice a4 r.2.1.length c5,.bool r.2.2]) 96 (0,0))
abbrev S72 (k : Nat) : Prop := ∀ {aS bW : Nat} {cJ : (List GToken)} {bX : OA} {cW : Bool} {w0 : World} {h0 : Sto},Has h0 w0 → SlR h0 bX bW cJ → Mut h0 w0 aS (.cells (List.toArray [.slice bX cJ.length bW,.bool cW]) 96 (0,0)) → ∀ {r : (List Int) × (List GToken) × Bool},m72 k cJ cW = some r → Calls Try.prog 72 (List.toArray [.pointer (some ⟨aS,0,none⟩),.func (.func 73) #[.pointer (some ⟨aS,0,none⟩)] #[]]) w0 (Ret (Q72 w0 h0 aS r))
abbrev SLl72_0 (k : Nat) : Prop := ∀ {aS c3 c4 : Nat} {w0 w : World} {h0 h : Sto} {σ : Env} {l1 : (List GToken)} {a3 a4 : OA} {b1 b2 : Bool} {l2 : (List Int)} {r : (List Int) × (List GToken) × Bool},St w0 (fun x => x = aS) h0 h w → σ 0 = .pointer (some ⟨aS,0,none⟩) → σ 1 = .func (.func 73) #[.pointer (some ⟨aS,0,none⟩)] #[] → σ 4 = .slice a4 l2.length c4 → σ 5 = .bool b2 → SlR h a3 c3 l1 → Mut h w aS (.cells (List.toArray [.slice a3 l1.length c3,.bool b1]) 96 (0,0)) → Own 3 w0.heap.size h w a4 c4 l2 → l72_0 k l1 b1 l2 b2 = some r → Run X72 [.code c72_17,.inLoop c72_17,.inBlock 0,.code c72_27] σ w (.fn (Q72 w0 h0 aS r))
abbrev Q43 (w0 : World) (h0 : Sto) (aS : Nat) (r : GDecl × (List GToken) × Bool) : Value → World → Prop := fun v w' => ∃ (a1 : OA) (c2 : Nat) (a4 : OA) (c5 : Nat) (h' : Sto),v = .agg #[.string r.1.Name,.slice a1 r.1.Shape.length c2,.string r.1.Form,I r.1.Block] ∧ St w0 (fun x => x = aS) h0 h' w' ∧ SlR h' a1 c2 r.1.Shape ∧ SlR h' a4 c5 r.2.1 ∧ Mut h' w' aS (.cells (List.toArray [.slice a4 r.2.1.length c5,.bool r.2.2]) 96 (0,0))
abbrev S43 (k : Nat) : Prop := ∀ {aS bW : Nat} {cJ : (List GToken)} {bX : OA} {cW : Bool} {w0 : World} {h0 : Sto},Has h0 w0 → SlR h0 bX bW cJ → Mut h0 w0 aS (.cells (List.toArray [.slice bX cJ.length bW,.bool cW]) 96 (0,0)) → ∀ {r : GDecl × (List GToken) × Bool},m43 k cJ cW = some r → Calls Try.prog 43 (List.toArray [.pointer (some ⟨aS,0,none⟩)]) w0 (Ret (Q43 w0 h0 aS r))
abbrev Q75 (w0 : World) (h0 : Sto) (aS : Nat) (r : (List ByteArray) × (List GToken) × Bool) : Value → World → Prop := fun v w' => ∃ (a1 : OA) (c2 : Nat) (a4 : OA) (c5 : Nat) (h' : Sto),v = .slice a1 r.1.length c2 ∧ St w0 (fun x => x = aS) h0 h' w' ∧ SlR h' a1 c2 r.1 ∧ SlR h' a4 c5 r.2.1 ∧ Mut h' w' aS (.cells (List.toArray [.slice a4 r.2.1.length c5,.bool r.2.2]) 96 (0,0))
abbrev S75 (k : Nat) : Prop := ∀ {aS bW : Nat} {cJ : (List GToken)} {bX : OA} {cW : Bool} {w0 : World} {h0 : Sto},Has h0 w0 → SlR h0 bX bW cJ → Mut h0 w0 aS (.cells (List.toArray [.slice bX cJ.length bW,.bool cW]) 96 (0,0)) → ∀ {r : (List ByteArray) × (List GToken) × Bool},m75 k cJ cW = some r → Calls Try.prog 75 (List.toArray [.pointer (some ⟨aS,0,none⟩),.func (.func 71) #[.pointer (some ⟨aS,0,none⟩)] #[]]) w0 (Ret (Q75 w0 h0 aS r))
abbrev SLl75_0 (k : Nat) : Prop := ∀ {aS c3 c4 : Nat} {w0 w : World} {h0 h : Sto} {σ : Env} {l1 : (List GToken)} {a3 a4 : OA} {b1 b2 : Bool} {l2 : (List ByteArray)} {r : (List ByteArray) × (List GToken) × Bool},St w0 (fun x => x = aS) h0 h w → σ 0 = .pointer (some ⟨aS,0,none⟩) → σ 1 = .func (.func 71) #[.pointer (some ⟨aS,0,none⟩)] #[] → σ 4 = .slice a4 l2.length c4 → σ 5 = .bool b2 → SlR h a3 c3 l1 → Mut h w aS (.cells (List.toArray [.slice a3 l1.length c3,.bool b1]) 96 (0,0)) → Own 9 w0.heap.size h w a4 c4 l2 → l75_0 k l1 b1 l2 b2 = some r → Run X75 [.code c75_17,.inLoop c75_17,.inBlock 0,.code c75_27] σ w (.fn (Q75 w0 h0 aS r))
abbrev Q100 (w0 : World) (h0 : Sto) (aS : Nat) (r : GNode × (List GToken) × Bool) : Value → World → Prop := fun v w' => ∃ (a1 : OA) (c2 : Nat) (a4 : OA) (c5 : Nat) (a7 : OA) (c8 : Nat) (h' : Sto),v = .agg #[I r.1.Op,I r.1.N,.string r.1.Name,.slice a1 r.1.Index.length c2,.slice a4 r.1.L.length c5] ∧ St w0 (fun x => x = aS) h0 h' w' ∧ SlR h' a1 c2 r.1.Index ∧ SlR h' a4 c5 r.1.L ∧ SlR h' a7 c8 r.2.1 ∧ Mut h' w' aS (.cells (List.toArray [.slice a7 r.2.1.length c8,.bool r.2.2]) 96 (0,0))
abbrev S100 (k : Nat) : Prop := ∀ {aS bW : Nat} {cJ : (List GToken)} {bX : OA} {cW : Bool} {w0 : World} {h0 : Sto},Has h0 w0 → SlR h0 bX bW cJ → Mut h0 w0 aS (.cells (List.toArray [.slice bX cJ.length bW,.bool cW]) 96 (0,0)) → ∀ {r : GNode × (List GToken) × Bool},m100 k cJ cW = some r → Calls Try.prog 100 (List.toArray [.pointer (some ⟨aS,0,none⟩)]) w0 (Ret (Q100 w0 h0 aS r))
abbrev Q96 (w0 : World) (h0 : Sto) (aS : Nat) (r : GNode × (List GToken) × Bool) : Value → World → Prop := fun v w' => ∃ (a1 : OA) (c2 : Nat) (a4 : OA) (c5 : Nat) (a7 : OA) (c8 : Nat) (h' : Sto),v = .agg #[I r.1.Op,I r.1.N,.string r.1.Name,.slice a1 r.1.Index.length c2,.slice a4 r.1.L.length c5] ∧ St w0 (fun x => x = aS) h0 h' w' ∧ SlR h' a1 c2 r.1.Index ∧ SlR h' a4 c5 r.1.L ∧ SlR h' a7 c8 r.2.1 ∧ Mut h' w' aS (.cells (List.toArray [.slice a7 r.2.1.length c8,.bool r.2.2]) 96 (0,0))
abbrev S96 (k : Nat) : Prop := ∀ {aS bW : Nat} {cJ : (List GToken)} {bX : OA} {cW : Bool} {w0 : World} {h0 : Sto},Has h0 w0 → SlR h0 bX bW cJ → Mut h0 w0 aS (.cells (List.toArray [.slice bX cJ.length bW,.bool cW]) 96 (0,0)) → ∀ {r : GNode × (List GToken) × Bool},m96 k cJ cW = some r → Calls Try.prog 96 (List.toArray [.pointer (some ⟨aS,0,none⟩)]) w0 (Ret (Q96 w0 h0 aS r))
abbrev Q89_1 (w0 : World) (h0 : Sto) (aS : Nat) (r : GNode × (List GToken) × Bool) : Value → World → Prop := fun v w' => ∃ (a1 : OA) (c2 : Nat) (a4 : OA) (c5 : Nat) (a7 : OA) (c8 : Nat) (h' : Sto),v = .agg #[I r.1.Op,I r.1.N,.string r.1.Name,.slice a1 r.1.Index.length c2,.slice a4 r.1.L.length c5] ∧ St w0 (fun x => x = aS) h0 h' w' ∧ SlR h' a1 c2 r.1.Index ∧ SlR h' a4 c5 r.1.L ∧ SlR h' a7 c8 r.2.1 ∧ Mut h' w' aS (.cells (List.toArray [.slice a7 r.2.1.length c8,.bool r.2.2]) 96 (0,0))
abbrev S89_1 (k : Nat) : Prop := ∀ {aS bW p2_b : Nat} {cJ : (List GToken)} {bX : OA} {cW : Bool} {p2 : List (ByteArray × Int)} {w0 : World} {h0 : Sto},Has h0 w0 → SlR h0 bX bW cJ → Mut h0 w0 aS (.cells (List.toArray [.slice bX cJ.length bW,.bool cW]) 96 (0,0)) → MpF h0 p2_b p2 → ∀ {r : GNode × (List GToken) × Bool},m89_1 k cJ cW p2 = some r → Calls Try.prog 89 (List.toArray [.pointer (some ⟨aS,0,none⟩),.func (.func 96) #[.pointer (some ⟨aS,0,none⟩)] #[],.map (some p2_b)]) w0 (Ret (Q89_1 w0 h0 aS r))
abbrev SLl89_1_0 (k : Nat) : Prop := ∀ {aS p2_b b1 b2 c4 c5 c6 : Nat} {p2 : List (ByteArray × Int)} {w0 w : World} {h0 h : Sto} {σ : Env} {l1 : (List GToken)} {a4 a5 a6 : OA} {b3 : Bool} {i1 i2 : Int} {str1 : ByteArray} {l2 : (List ByteArray)} {l3 : (List GNode)} {r : GNode × (List GToken) × Bool},St w0 (fun x => x = aS) h0 h w → σ 0 = .pointer (some ⟨aS,0,none⟩) → σ 1 = .func (.func 96) #[.pointer (some ⟨aS,0,none⟩)] #[] → σ 2 = .map (some p2_b) → σ 6 = .pointer (some ⟨b1,0,none⟩) → σ 7 = .pointer (some ⟨b2,0,none⟩) → SlR h a4 c4 l1 → Mut h w aS (.cells (List.toArray [.slice a4 l1.length c4,.bool b3]) 96 (0,0)) → MpF h p2_b p2 → Mut h w b1 (.cells (List.toArray [I 0,I 0,.string ByteArray.empty,.slice none 0 0,.slice none 0 0]) 31 (0,0)) → w0.heap.size ≤ b1 → SlR h a5 c5 l2 → SlR h a6 c6 l3 → Mut h w b2 (.cells (List.toArray [I i1,I i2,.string str1,.slice a5 l2.length c5,.slice a6 l3.length c6]) 31 (0,0)) → w0.heap.size ≤ b2 → b1 ≠ b2 → l89_1_0 k p2 l1 b3 i1 i2 str1 l2 l3 = some r → Run X89 [.code c89_7,.inLoop c89_7,.inBlock 0,.code c89_25] σ w (.fn (Q89_1 w0 h0 aS r))
abbrev Q90 (w0 : World) (h0 : Sto) (aS : Nat) (r : GNode × (List GToken) × Bool) : Value → World → Prop := fun v w' => ∃ (a1 : OA) (c2 : Nat) (a4 : OA) (c5 : Nat) (a7 : OA) (c8 : Nat) (h' : Sto),v = .agg #[I r.1.Op,I r.1.N,.string r.1.Name,.slice a1 r.1.Index.length c2,.slice a4 r.1.L.length c5] ∧ St w0 (fun x => x = aS) h0 h' w' ∧ SlR h' a1 c2 r.1.Index ∧ SlR h' a4 c5 r.1.L ∧ SlR h' a7 c8 r.2.1 ∧ Mut h' w' aS (.cells (List.toArray [.slice a7 r.2.1.length c8,.bool r.2.2]) 96 (0,0))
abbrev S90 (k : Nat) : Prop := ∀ {aS bW : Nat} {cJ : (List GToken)} {bX : OA} {cW : Bool} {w0 : World} {h0 : Sto},Has h0 w0 → SlR h0 bX bW cJ → Mut h0 w0 aS (.cells (List.toArray [.slice bX cJ.length bW,.bool cW]) 96 (0,0)) → ∀ {r : GNode × (List GToken) × Bool},m90 k cJ cW = some r → Calls Try.prog 90 (List.toArray [.pointer (some ⟨aS,0,none⟩)]) w0 (Ret (Q90 w0 h0 aS r))
abbrev Q89 (w0 : World) (h0 : Sto) (aS : Nat) (r : GNode × (List GToken) × Bool) : Value → World → Prop := fun v w' => ∃ (a1 : OA) (c2 : Nat) (a4 : OA) (c5 : Nat) (a7 : OA) (c8 : Nat) (h' : Sto),v = .agg #[I r.1.Op,I r.1.N,.string r.1.Name,.slice a1 r.1.Index.length c2,.slice a4 r.1.L.length c5] ∧ St w0 (fun x => x = aS) h0 h' w' ∧ SlR h' a1 c2 r.1.Index ∧ SlR h' a4 c5 r.1.L ∧ SlR h' a7 c8 r.2.1 ∧ Mut h' w' aS (.cells (List.toArray [.slice a7 r.2.1.length c8,.bool r.2.2]) 96 (0,0))
abbrev S89 (k : Nat) : Prop := ∀ {aS bW p2_b : Nat} {cJ : (List GToken)} {bX : OA} {cW : Bool} {p2 : List (ByteArray × Int)} {w0 : World} {h0 : Sto},Has h0 w0 → SlR h0 bX bW cJ → Mut h0 w0 aS (.cells (List.toArray [.slice bX cJ.length bW,.bool cW]) 96 (0,0)) → MpF h0 p2_b p2 → ∀ {r : GNode × (List GToken) × Bool},m89 k cJ cW p2 = some r → Calls Try.prog 89 (List.toArray [.pointer (some ⟨aS,0,none⟩),.func (.func 90) #[.pointer (some ⟨aS,0,none⟩)] #[],.map (some p2_b)]) w0 (Ret (Q89 w0 h0 aS r))
abbrev SLl89_0 (k : Nat) : Prop := ∀ {aS p2_b b1 b2 c4 c5 c6 : Nat} {p2 : List (ByteArray × Int)} {w0 w : World} {h0 h : Sto} {σ : Env} {l1 : (List GToken)} {a4 a5 a6 : OA} {b3 : Bool} {i1 i2 : Int} {str1 : ByteArray} {l2 : (List ByteArray)} {l3 : (List GNode)} {r : GNode × (List GToken) × Bool},St w0 (fun x => x = aS) h0 h w → σ 0 = .pointer (some ⟨aS,0,none⟩) → σ 1 = .func (.func 90) #[.pointer (some ⟨aS,0,none⟩)] #[] → σ 2 = .map (some p2_b) → σ 6 = .pointer (some ⟨b1,0,none⟩) → σ 7 = .pointer (some ⟨b2,0,none⟩) → SlR h a4 c4 l1 → Mut h w aS (.cells (List.toArray [.slice a4 l1.length c4,.bool b3]) 96 (0,0)) → MpF h p2_b p2 → Mut h w b1 (.cells (List.toArray [I 0,I 0,.string ByteArray.empty,.slice none 0 0,.slice none 0 0]) 31 (0,0)) → w0.heap.size ≤ b1 → SlR h a5 c5 l2 → SlR h a6 c6 l3 → Mut h w b2 (.cells (List.toArray [I i1,I i2,.string str1,.slice a5 l2.length c5,.slice a6 l3.length c6]) 31 (0,0)) → w0.heap.size ≤ b2 → b1 ≠ b2 → l89_0 k p2 l1 b3 i1 i2 str1 l2 l3 = some r → Run X89 [.code c89_7,.inLoop c89_7,.inBlock 0,.code c89_25] σ w (.fn (Q89 w0 h0 aS r))
abbrev Q76 (w0 : World) (h0 : Sto) (aS : Nat) (r : GNode × (List GToken) × Bool) : Value → World → Prop := fun v w' => ∃ (a1 : OA) (c2 : Nat) (a4 : OA) (c5 : Nat) (a7 : OA) (c8 : Nat) (h' : Sto),v = .agg #[I r.1.Op,I r.1.N,.string r.1.Name,.slice a1 r.1.Index.length c2,.slice a4 r.1.L.length c5] ∧ St w0 (fun x => x = aS) h0 h' w' ∧ SlR h' a1 c2 r.1.Index ∧ SlR h' a4 c5 r.1.L ∧ SlR h' a7 c8 r.2.1 ∧ Mut h' w' aS (.cells (List.toArray [.slice a7 r.2.1.length c8,.bool r.2.2]) 96 (0,0))
abbrev S76 (k : Nat) : Prop := ∀ {aS bW : Nat} {cJ : (List GToken)} {bX : OA} {cW : Bool} {w0 : World} {h0 : Sto},Has h0 w0 → SlR h0 bX bW cJ → Mut h0 w0 aS (.cells (List.toArray [.slice bX cJ.length bW,.bool cW]) 96 (0,0)) → ∀ {r : GNode × (List GToken) × Bool},m76 k cJ cW = some r → Calls Try.prog 76 (List.toArray [.pointer (some ⟨aS,0,none⟩)]) w0 (Ret (Q76 w0 h0 aS r))
abbrev Q44 (w0 : World) (h0 : Sto) (aS : Nat) (r : GStmt × (List GToken) × Bool) : Value → World → Prop := fun v w' => ∃ (a1 : OA) (c2 : Nat) (a4 : OA) (c5 : Nat) (a7 : OA) (c8 : Nat) (a10 : OA) (c11 : Nat) (h' : Sto),v = .agg #[.string r.1.Name,.slice a1 r.1.Index.length c2,I r.1.E.Op,I r.1.E.N,.string r.1.E.Name,.slice a4 r.1.E.Index.length c5,.slice a7 r.1.E.L.length c8] ∧ St w0 (fun x => x = aS) h0 h' w' ∧ SlR h' a1 c2 r.1.Index ∧ SlR h' a4 c5 r.1.E.Index ∧ SlR h' a7 c8 r.1.E.L ∧ SlR h' a10 c11 r.2.1 ∧ Mut h' w' aS (.cells (List.toArray [.slice a10 r.2.1.length c11,.bool r.2.2]) 96 (0,0))
abbrev S44 (k : Nat) : Prop := ∀ {aS bW : Nat} {cJ : (List GToken)} {bX : OA} {cW : Bool} {w0 : World} {h0 : Sto},Has h0 w0 → SlR h0 bX bW cJ → Mut h0 w0 aS (.cells (List.toArray [.slice bX cJ.length bW,.bool cW]) 96 (0,0)) → ∀ {r : GStmt × (List GToken) × Bool},m44 k cJ cW = some r → Calls Try.prog 44 (List.toArray [.pointer (some ⟨aS,0,none⟩)]) w0 (Ret (Q44 w0 h0 aS r))
abbrev Q45 (w0 : World) (h0 : Sto) (aS : Nat) (r : Bool × (List GToken) × Bool) : Value → World → Prop := fun v w' => ∃ (a1 : OA) (c2 : Nat) (h' : Sto),v = .bool r.1 ∧ St w0 (fun x => x = aS) h0 h' w' ∧ SlR h' a1 c2 r.2.1 ∧ Mut h' w' aS (.cells (List.toArray [.slice a1 r.2.1.length c2,.bool r.2.2]) 96 (0,0))
abbrev S45 : Prop := ∀ {aS bW : Nat} {cJ : (List GToken)} {bX : OA} {cW : Bool} {w0 : World} {h0 : Sto},Has h0 w0 → SlR h0 bX bW cJ → Mut h0 w0 aS (.cells (List.toArray [.slice bX cJ.length bW,.bool cW]) 96 (0,0)) → ∀ {r : Bool × (List GToken) × Bool},m45 cJ cW = some r → Calls Try.prog 45 (List.toArray [.pointer (some ⟨aS,0,none⟩)]) w0 (Ret (Q45 w0 h0 aS r))
abbrev Q80 (w0 : World) (h0 : Sto) (r : Bool) : Value → World → Prop := fun v w' => ∃ (h' : Sto),v = .bool r ∧ St w0 noM h0 h' w'
abbrev S80 (k : Nat) : Prop := ∀ {p0 : ByteArray} {w0 : World} {h0 : Sto},Has h0 w0 → ∀ {r : Bool},m80 k p0 = some r → Calls Try.prog 80 (List.toArray [.string p0]) w0 (Ret (Q80 w0 h0 r))
abbrev Q92 (w0 : World) (h0 : Sto) (r : Int) : Value → World → Prop := fun v w' => ∃ (h' : Sto),v = I r ∧ St w0 noM h0 h' w'
abbrev S92 (k : Nat) : Prop := ∀ {p0 : (List ByteArray)} {bA : OA} {bC : Nat} {w0 : World} {h0 : Sto},Has h0 w0 → SlR h0 bA bC p0 → ∀ {r : Int},m92 k p0 = some r → Calls Try.prog 92 (List.toArray [.slice bA p0.length bC,.func (.func 80) #[] #[]]) w0 (Ret (Q92 w0 h0 r))
abbrev SLl92_0 (k : Nat) : Prop := ∀ {p0 : (List ByteArray)} {bA : OA} {bC j1 : Nat} {w0 w : World} {h0 h : Sto} {σ : Env} {xs1 : List ByteArray} {r : Int},St w0 noM h0 h w → σ 0 = .slice bA p0.length bC → σ 1 = .func (.func 80) #[] #[] → σ 7 = I (p0.length : Int) → σ 8 = I (j1 : Int) → SlR h bA bC p0 → p0.drop j1 = xs1 → l92_0 k j1 xs1 = some r → Run X92 [.code c92_7,.inLoop c92_7,.inBlock 0,.code c92_25] σ w (.fn (Q92 w0 h0 r))
abbrev Q79 (w0 : World) (h0 : Sto) (r : Bool) : Value → World → Prop := fun v w' => ∃ (h' : Sto),v = .bool r ∧ St w0 noM h0 h' w'
abbrev S79 (k : Nat) : Prop := ∀ {p0 : (List ByteArray)} {bA : OA} {bC : Nat} {w0 : World} {h0 : Sto},Has h0 w0 → SlR h0 bA bC p0 → ∀ {r : Bool},m79 k p0 = some r → Calls Try.prog 79 (List.toArray [.slice bA p0.length bC,.func (.func 80) #[] #[]]) w0 (Ret (Q79 w0 h0 r))
abbrev Q49 (w0 : World) (h0 : Sto) (r : Bool) : Value → World → Prop := fun v w' => ∃ (h' : Sto),v = .bool r ∧ St w0 noM h0 h' w'
abbrev S49 (k : Nat) : Prop := ∀ {p0 : (List ByteArray)} {bA : OA} {bC : Nat} {w0 : World} {h0 : Sto},Has h0 w0 → SlR h0 bA bC p0 → ∀ {r : Bool},m49 k p0 = some r → Calls Try.prog 49 (List.toArray [.slice bA p0.length bC]) w0 (Ret (Q49 w0 h0 r))
abbrev Q61 (w0 : World) (h0 : Sto) (r : Int) : Value → World → Prop := fun v w' => ∃ (h' : Sto),v = I r ∧ St w0 noM h0 h' w'
abbrev S61 : Prop := ∀ {p0 : Int} {w0 : World} {h0 : Sto},Has h0 w0 → ∀ {r : Int},m61 p0 = some r → Calls Try.prog 61 (List.toArray [I p0]) w0 (Ret (Q61 w0 h0 r))
abbrev Q38 (w0 : World) (h0 : Sto) (r : Int) : Value → World → Prop := fun v w' => ∃ (h' : Sto),v = I r ∧ St w0 noM h0 h' w'
abbrev S38 (k : Nat) : Prop := ∀ {p0 : GNode} {aG bD : OA} {aH bE : Nat} {p1 : Int} {w0 : World} {h0 : Sto},Has h0 w0 → SlR h0 aG aH p0.Index → SlR h0 bD bE p0.L → ∀ {r : Int},m38 k p0 p1 = some r → Calls Try.prog 38 (List.toArray [.agg #[I p0.Op,I p0.N,.string p0.Name,.slice aG p0.Index.length aH,.slice bD p0.L.length bE],I p1]) w0 (Ret (Q38 w0 h0 r))
abbrev SLl38_0 (k : Nat) : Prop := ∀ {p0 : GNode} {bD : OA} {bE j7 : Nat} {p1 i1 : Int} {w0 w : World} {h0 h : Sto} {σ : Env} {xs1 : List GNode} {r : Int},St w0 noM h0 h w → σ 1 = I p1 → σ 7 = I i1 → σ 83 = .slice bD p0.L.length bE → σ 84 = I (p0.L.length : Int) → σ 85 = I (j7 : Int) → SlR h bD bE p0.L → p0.L.drop j7 = xs1 → l38_0 k p1 i1 xs1 = some r → Run X38 [.code c38_46,.inLoop c38_46,.inBlock 1,.code c38_68] σ w (.fn (Q38 w0 h0 r))
abbrev Q21 (w0 : World) (h0 : Sto) (r : Bool) : Value → World → Prop := fun v w' => ∃ (h' : Sto),v = .bool r ∧ St w0 noM h0 h' w'
abbrev S21 (k : Nat) : Prop := ∀ {p0 : GNode} {aG bD : OA} {aH bE : Nat} {w0 : World} {h0 : Sto},Has h0 w0 → SlR h0 aG aH p0.Index → SlR h0 bD bE p0.L → ∀ {r : Bool},m21 k p0 = some r → Calls Try.prog 21 (List.toArray [.agg #[I p0.Op,I p0.N,.string p0.Name,.slice aG p0.Index.length aH,.slice bD p0.L.length bE]]) w0 (Ret (Q21 w0 h0 r))
abbrev Q78 (w0 : World) (h0 : Sto) (r : Bool) : Value → World → Prop := fun v w' => ∃ (h' : Sto),v = .bool r ∧ St w0 noM h0 h' w'
abbrev S78 : Prop := ∀ {p0 : Int} {w0 : World} {h0 : Sto},Has h0 w0 → ∀ {r : Bool},m78 p0 = some r → Calls Try.prog 78 (List.toArray [I p0]) w0 (Ret (Q78 w0 h0 r))
abbrev Q91 (w0 : World) (h0 : Sto) (r : Int) : Value → World → Prop := fun v w' => ∃ (h' : Sto),v = I r ∧ St w0 noM h0 h' w'
abbrev S91 (k : Nat) : Prop := ∀ {p0 : (List Int)} {bA : OA} {bC : Nat} {w0 : World} {h0 : Sto},Has h0 w0 → SlR h0 bA bC p0 → ∀ {r : Int},m91 k p0 = some r → Calls Try.prog 91 (List.toArray [.slice bA p0.length bC,.func (.func 78) #[] #[]]) w0 (Ret (Q91 w0 h0 r))
abbrev SLl91_0 (k : Nat) : Prop := ∀ {p0 : (List Int)} {bA : OA} {bC j1 : Nat} {w0 w : World} {h0 h : Sto} {σ : Env} {xs1 : List Int} {r : Int},St w0 noM h0 h w → σ 0 = .slice bA p0.length bC → σ 1 = .func (.func 78) #[] #[] → σ 7 = I (p0.length : Int) → σ 8 = I (j1 : Int) → SlR h bA bC p0 → p0.drop j1 = xs1 → l91_0 k j1 xs1 = some r → Run X91 [.code c91_7,.inLoop c91_7,.inBlock 0,.code c91_25] σ w (.fn (Q91 w0 h0 r))
abbrev Q77 (w0 : World) (h0 : Sto) (r : Bool) : Value → World → Prop := fun v w' => ∃ (h' : Sto),v = .bool r ∧ St w0 noM h0 h' w'
abbrev S77 (k : Nat) : Prop := ∀ {p0 : (List Int)} {bA : OA} {bC : Nat} {w0 : World} {h0 : Sto},Has h0 w0 → SlR h0 bA bC p0 → ∀ {r : Bool},m77 k p0 = some r → Calls Try.prog 77 (List.toArray [.slice bA p0.length bC,.func (.func 78) #[] #[]]) w0 (Ret (Q77 w0 h0 r))
abbrev Q47 (w0 : World) (h0 : Sto) (r : Bool) : Value → World → Prop := fun v w' => ∃ (h' : Sto),v = .bool r ∧ St w0 noM h0 h' w'
abbrev S47 (k : Nat) : Prop := ∀ {p0 : (List Int)} {bA : OA} {bC : Nat} {w0 : World} {h0 : Sto},Has h0 w0 → SlR h0 bA bC p0 → ∀ {r : Bool},m47 k p0 = some r → Calls Try.prog 47 (List.toArray [.slice bA p0.length bC]) w0 (Ret (Q47 w0 h0 r))
abbrev Q26 (w0 : World) (h0 : Sto) (r : Int) : Value → World → Prop := fun v w' => ∃ (h' : Sto),v = I r ∧ St w0 noM h0 h' w'
abbrev S26 (k : Nat) : Prop := ∀ {p0 : GProg} {bY bS : OA} {bZ bT : Nat} {w0 : World} {h0 : Sto},Has h0 w0 → SlR h0 bY bZ p0.D → SlR h0 bS bT p0.S → ∀ {r : Int},m26 k p0 = some r → Calls Try.prog 26 (List.toArray [.agg #[.slice bY p0.D.length bZ,.slice bS p0.S.length bT]]) w0 (Ret (Q26 w0 h0 r))
abbrev SLl26_0 (k : Nat) : Prop := ∀ {p0 : GProg} {bY bS : OA} {bZ bT b1 j2 : Nat} {w0 w : World} {h0 h : Sto} {σ : Env} {b2 : Bool} {xs1 : List GDecl} {r : Int},St w0 noM h0 h w → σ 1 = .pointer (some ⟨b1,0,none⟩) → σ 3 = .bool b2 → σ 19 = .slice bY p0.D.length bZ → σ 20 = I (p0.D.length : Int) → σ 21 = I (j2 : Int) → SlR h bY bZ p0.D → SlR h bS bT p0.S → h b1 = some (.cells (List.toArray [.slice bY p0.D.length bZ,.slice bS p0.S.length bT]) 25 (0,0)) → p0.D.drop j2 = xs1 → l26_0 k p0 b2 xs1 = some r → Run X26 [.code c26_9,.inLoop c26_9,.inBlock 0,.code c26_21] σ w (.fn (Q26 w0 h0 r))
abbrev SLl26_1 (k : Nat) : Prop := ∀ {p0 : GProg} {bS : OA} {bT j3 : Nat} {w0 w : World} {h0 h : Sto} {σ : Env} {b3 : Bool} {xs3 : List GStmt} {r : Int},St w0 noM h0 h w → σ 3 = .bool b3 → σ 55 = .slice bS p0.S.length bT → σ 56 = I (p0.S.length : Int) → σ 57 = I (j3 : Int) → SlR h bS bT p0.S → p0.S.drop j3 = xs3 → l26_1 k b3 xs3 = some r → Run X26 [.code c26_26,.inLoop c26_26,.inBlock 2,.code c26_38] σ w (.fn (Q26 w0 h0 r))
abbrev Q24 (w0 : World) (h0 : Sto) (r : GProg × Int × Int) : Value → World → Prop := fun v w' => ∃ (a1 : OA) (c2 : Nat) (a4 : OA) (c5 : Nat) (h' : Sto),v = .tuple #[.agg #[.slice a1 r.1.D.length c2,.slice a4 r.1.S.length c5],I r.2.1,I r.2.2] ∧ St w0 noM h0 h' w' ∧ SlR h' a1 c2 r.1.D ∧ SlR h' a4 c5 r.1.S
abbrev S24 (k : Nat) : Prop := ∀ {p0 : ByteArray} {w0 : World} {h0 : Sto},Has h0 w0 → ∀ {r : GProg × Int × Int},m24 k p0 = some r → Calls Try.prog 24 (List.toArray [.string p0]) w0 (Ret (Q24 w0 h0 r))
abbrev SLl24_0 (k : Nat) : Prop := ∀ {w0 w : World} {h0 h : Sto} {b1 c2 c3 c4 j2 : Nat} {r2 : (List (List GToken))} {a2 a3 a4 : OA} {σ : Env} {l1 : (List GDecl)} {l2 : (List GStmt)} {xs1 : List (List GToken)} {r : GProg × Int × Int},St w0 noM h0 h w → σ 2 = .pointer (some ⟨b1,0,none⟩) → σ 8 = .slice a2 r2.length c2 → σ 26 = .slice a2 r2.length c2 → σ 27 = I (r2.length : Int) → σ 28 = I (j2 : Int) → Own 45 w0.heap.size h w a3 c3 l1 → Own 33 w0.heap.size h w a4 c4 l2 → Mut h w b1 (.cells (List.toArray [.slice a3 l1.length c3,.slice a4 l2.length c4]) 25 (0,0)) → w0.heap.size ≤ b1 → SlR h a2 c2 r2 → r2.drop j2 = xs1 → l24_0 k r2 j2 l1 l2 xs1 = some r → Run X24 [.code c24_19,.inLoop c24_19,.inBlock 0,.code c24_56] σ w (.fn (Q24 w0 h0 r))
abbrev Q58 (w0 : World) (h0 : Sto) (r : (List GNode)) : Value → World → Prop := fun v w' => ∃ (a1 : OA) (c2 : Nat) (h' : Sto),v = .slice a1 r.length c2 ∧ St w0 noM h0 h' w' ∧ Own 31 w0.heap.size h' w' a1 c2 r
abbrev S58 : Prop := ∀ {p0 : (List GNode)} {bA : OA} {bC : Nat} {w0 : World} {h0 : Sto},Has h0 w0 → SlR h0 bA bC p0 → ∀ {r : (List GNode)},cl p0 = some r → Calls Try.prog 58 (List.toArray [.slice bA p0.length bC]) w0 (Ret (Q58 w0 h0 r))
abbrev Q50 (w0 : World) (h0 : Sto) (r : Int) : Value → World → Prop := fun v w' => ∃ (h' : Sto),v = I r ∧ St w0 noM h0 h' w'
abbrev S50 (k : Nat) : Prop := ∀ {p0 : (List ByteArray)} {bA : OA} {bC : Nat} {p1 : ByteArray} {w0 : World} {h0 : Sto},Has h0 w0 → SlR h0 bA bC p0 → ∀ {r : Int},m50 k p0 p1 = some r → Calls Try.prog 50 (List.toArray [.slice bA p0.length bC,.string p1]) w0 (Ret (Q50 w0 h0 r))
abbrev SLl50_0 (k : Nat) : Prop := ∀ {p0 : (List ByteArray)} {bA : OA} {bC j1 : Nat} {p1 : ByteArray} {w0 w : World} {h0 h : Sto} {σ : Env} {xs1 : List ByteArray} {r : Int},St w0 noM h0 h w → σ 0 = .slice bA p0.length bC → σ 1 = .string p1 → σ 7 = I (p0.length : Int) → σ 8 = I (j1 : Int) → SlR h bA bC p0 → p0.drop j1 = xs1 → l50_0 k p1 j1 xs1 = some r → Run X50 [.code c50_7,.inLoop c50_7,.inBlock 0,.code c50_25] σ w (.fn (Q50 w0 h0 r))
abbrev Q28 (w0 : World) (h0 : Sto) (r : Bool) : Value → World → Prop := fun v w' => ∃ (h' : Sto),v = .bool r ∧ St w0 noM h0 h' w'
abbrev S28 (k : Nat) : Prop := ∀ {p0 : (List ByteArray)} {bA : OA} {bC : Nat} {p1 : ByteArray} {w0 : World} {h0 : Sto},Has h0 w0 → SlR h0 bA bC p0 → ∀ {r : Bool},m28 k p0 p1 = some r → Calls Try.prog 28 (List.toArray [.slice bA p0.length bC,.string p1]) w0 (Ret (Q28 w0 h0 r))
abbrev Q60 (w0 : World) (h0 : Sto) (r : (List ByteArray)) : Value → World → Prop := fun v w' => ∃ (a1 : OA) (c2 : Nat) (h' : Sto),v = .slice a1 r.length c2 ∧ St w0 noM h0 h' w' ∧ Own 9 w0.heap.size h' w' a1 c2 r
abbrev S60 : Prop := ∀ {p0 : (List ByteArray)} {bA : OA} {bC : Nat} {w0 : World} {h0 : Sto},Has h0 w0 → SlR h0 bA bC p0 → ∀ {r : (List ByteArray)},cl p0 = some r → Calls Try.prog 60 (List.toArray [.slice bA p0.length bC]) w0 (Ret (Q60 w0 h0 r))
abbrev Q35 (w0 : World) (h0 : Sto) (p2_a : OA) (p2_B : Nat) (r : (List ByteArray)) : Value → World → Prop := fun v w' => ∃ (a1 : OA) (c2 : Nat) (h' : Sto),v = .slice a1 r.length c2 ∧ St w0 (fun x => blk p2_a x) h0 h' w' ∧ Own 9 p2_B h' w' a1 c2 r ∧ (∀ x,blk a1 x → blk p2_a x ∨ w0.heap.size ≤ x)
abbrev S35 (k : Nat) : Prop := ∀ {p0 : GNode} {aG bD cY p2_a : OA} {aH bE cZ p2_c p2_B : Nat} {p1 p2 : (List ByteArray)} {w0 : World} {h0 : Sto},Has h0 w0 → SlR h0 aG aH p0.Index → SlR h0 bD bE p0.L → SlR h0 cY cZ p1 → p2_B ≤ w0.heap.size → Own 9 p2_B h0 w0 p2_a p2_c p2 → ∀ {r : (List ByteArray)},m35 k p0 p1 p2 = some r → Calls Try.prog 35 (List.toArray [.agg #[I p0.Op,I p0.N,.string p0.Name,.slice aG p0.Index.length aH,.slice bD p0.L.length bE],.slice cY p1.length cZ,.slice p2_a p2.length p2_c]) w0 (Ret (Q35 w0 h0 p2_a p2_B r))
abbrev SLl35_0 (k : Nat) : Prop := ∀ {p0 : GNode} {aG cY p2_a a1 : OA} {aH cZ p2_B c1 j2 : Nat} {p1 l1 : (List ByteArray)} {w0 w : World} {h0 h : Sto} {σ : Env} {xs1 : List ByteArray} {r : (List ByteArray)},St w0 (fun x => blk p2_a x) h0 h w → σ 1 = .slice cY p1.length cZ → σ 2 = .slice a1 l1.length c1 → σ 15 = .slice aG p0.Index.length aH → σ 16 = I (p0.Index.length : Int) → σ 17 = I (j2 : Int) → SlR h cY cZ p1 → Own 9 p2_B h w a1 c1 l1 → (∀ x,blk a1 x → blk p2_a x ∨ w0.heap.size ≤ x) → p2_B ≤ w0.heap.size → SlR h aG aH p0.Index → p0.Index.drop j2 = xs1 → l35_0 k p1 l1 xs1 = some r → Run X35 [.code c35_11,.inLoop c35_11,.inBlock 0,.code c35_27,.code c35_31] σ w (.fn (Q35 w0 h0 p2_a p2_B r))
abbrev SLl35_1 (k : Nat) : Prop := ∀ {p0 : GNode} {bD p2_a a6 a8 : OA} {bE p2_B c6 c8 j6 : Nat} {w0 w : World} {h0 h : Sto} {σ : Env} {y4 l2 : (List ByteArray)} {xs3 : List GNode} {r : (List ByteArray)},St w0 (fun x => blk p2_a x) h0 h w → σ 1 = .slice a6 y4.length c6 → σ 2 = .slice a8 l2.length c8 → σ 47 = .slice bD p0.L.length bE → σ 48 = I (p0.L.length : Int) → σ 49 = I (j6 : Int) → SlR h a6 c6 y4 → Own 9 p2_B h w a8 c8 l2 → (∀ x,blk a8 x → blk p2_a x ∨ w0.heap.size ≤ x) → p2_B ≤ w0.heap.size → SlR h bD bE p0.L → p0.L.drop j6 = xs3 → l35_1 k y4 l2 xs3 = some r → Run X35 [.code c35_42,.inLoop c35_42,.inBlock 2,.code c35_54] σ w (.fn (Q35 w0 h0 p2_a p2_B r))
abbrev Q18 (w0 : World) (h0 : Sto) (r : (List ByteArray)) : Value → World → Prop := fun v w' => ∃ (a1 : OA) (c2 : Nat) (h' : Sto),v = .slice a1 r.length c2 ∧ St w0 noM h0 h' w' ∧ SlR h' a1 c2 r
abbrev S18 (k : Nat) : Prop := ∀ {p0 : GNode} {aG bD : OA} {aH bE : Nat} {w0 : World} {h0 : Sto},Has h0 w0 → SlR h0 aG aH p0.Index → SlR h0 bD bE p0.L → ∀ {r : (List ByteArray)},m18 k p0 = some r → Calls Try.prog 18 (List.toArray [.agg #[I p0.Op,I p0.N,.string p0.Name,.slice aG p0.Index.length aH,.slice bD p0.L.length bE]]) w0 (Ret (Q18 w0 h0 r))
abbrev Q34 (w0 : World) (h0 : Sto) (r : GNode) : Value → World → Prop := fun v w' => ∃ (a1 : OA) (c2 : Nat) (a4 : OA) (c5 : Nat) (h' : Sto),v = .agg #[I r.Op,I r.N,.string r.Name,.slice a1 r.Index.length c2,.slice a4 r.L.length c5] ∧ St w0 noM h0 h' w' ∧ SlR h' a1 c2 r.Index ∧ SlR h' a4 c5 r.L
abbrev S34 (k : Nat) : Prop := ∀ {p0 : GNode} {aG bD cY : OA} {aH bE cZ : Nat} {p1 : (List ByteArray)} {w0 : World} {h0 : Sto},Has h0 w0 → SlR h0 aG aH p0.Index → SlR h0 bD bE p0.L → SlR h0 cY cZ p1 → ∀ {r : GNode},m34 k p0 p1 = some r → Calls Try.prog 34 (List.toArray [.agg #[I p0.Op,I p0.N,.string p0.Name,.slice aG p0.Index.length aH,.slice bD p0.L.length bE],.slice cY p1.length cZ]) w0 (Ret (Q34 w0 h0 r))
abbrev SLl34_0 (k : Nat) : Prop := ∀ {p0 : GNode} {aG bD cY a2 : OA} {aH bE cZ b1 b2 b3 c2 : Nat} {p1 : (List ByteArray)} {w0 w : World} {h0 h : Sto} {r1 l1 : (List GNode)} {σ : Env} {i1 : Int} {r : GNode},St w0 noM h0 h w → σ 2 = .pointer (some ⟨b1,0,none⟩) → σ 3 = .pointer (some ⟨b2,0,none⟩) → σ 4 = .pointer (some ⟨b3,0,none⟩) → σ 5 = .slice a2 l1.length c2 → σ 19 = I (r1.length : Int) → σ 20 = I i1 → SlR h aG aH p0.Index → SlR h bD bE p0.L → Mut h w b1 (.cells (List.toArray [I p0.Op,I p0.N,.string p0.Name,.slice aG p0.Index.length aH,.slice bD p0.L.length bE]) 31 (0,0)) → w0.heap.size ≤ b1 → SlR h cY cZ p1 → h b2 = some (.cells (List.toArray [.slice cY p1.length cZ]) 28 (0,0)) → Mut h w b3 (.cells (List.toArray [I 0,I 0,.string ByteArray.empty,.slice none 0 0,.slice none 0 0]) 31 (0,0)) → w0.heap.size ≤ b3 → Own 31 w0.heap.size h w a2 c2 l1 → ¬ blk a2 b1 → ¬ blk a2 b3 → b1 ≠ b3 → l34_0 k p0 p1 r1 l1 i1 = some r → Run X34 [.code c34_24,.inLoop c34_24,.inBlock 1,.code c34_36,.inBlock 0,.code c34_40] σ w (.fn (Q34 w0 h0 r))
abbrev SLl34_1 (k : Nat) : Prop := ∀ {p0 : GNode} {aG bD cY a4 : OA} {aH bE cZ b1 b2 b3 c4 : Nat} {p1 : (List ByteArray)} {w0 w : World} {h0 h : Sto} {σ : Env} {r2 l2 : (List GNode)} {i2 : Int} {r : GNode},St w0 noM h0 h w → σ 2 = .pointer (some ⟨b1,0,none⟩) → σ 3 = .pointer (some ⟨b2,0,none⟩) → σ 4 = .pointer (some ⟨b3,0,none⟩) → σ 5 = .slice a4 l2.length c4 → σ 19 = I (r2.length : Int) → σ 20 = I i2 → SlR h aG aH p0.Index → SlR h bD bE p0.L → Mut h w b1 (.cells (List.toArray [I p0.Op,I p0.N,.string p0.Name,.slice aG p0.Index.length aH,.slice bD p0.L.length bE]) 31 (0,0)) → w0.heap.size ≤ b1 → SlR h cY cZ p1 → h b2 = some (.cells (List.toArray [.slice cY p1.length cZ]) 28 (0,0)) → Mut h w b3 (.cells (List.toArray [I 0,I 0,.string ByteArray.empty,.slice none 0 0,.slice none 0 0]) 31 (0,0)) → w0.heap.size ≤ b3 → Own 31 w0.heap.size h w a4 c4 l2 → ¬ blk a4 b1 → ¬ blk a4 b3 → b1 ≠ b3 → l34_1 k p0 p1 r2 l2 i2 = some r → Run X34 [.code c34_24,.inLoop c34_24,.inBlock 1,.code c34_36,.inBlock 0,.code c34_40] σ w (.fn (Q34 w0 h0 r))
abbrev SLl34_2 (k : Nat) : Prop := ∀ {p0 : GNode} {aG bD cY a6 : OA} {aH bE cZ b1 b2 b3 c6 : Nat} {p1 : (List ByteArray)} {w0 w : World} {h0 h : Sto} {σ : Env} {r3 l3 : (List GNode)} {i3 : Int} {r : GNode},St w0 noM h0 h w → σ 2 = .pointer (some ⟨b1,0,none⟩) → σ 3 = .pointer (some ⟨b2,0,none⟩) → σ 4 = .pointer (some ⟨b3,0,none⟩) → σ 5 = .slice a6 l3.length c6 → σ 19 = I (r3.length : Int) → σ 20 = I i3 → SlR h aG aH p0.Index → SlR h bD bE p0.L → Mut h w b1 (.cells (List.toArray [I p0.Op,I p0.N,.string p0.Name,.slice aG p0.Index.length aH,.slice bD p0.L.length bE]) 31 (0,0)) → w0.heap.size ≤ b1 → SlR h cY cZ p1 → h b2 = some (.cells (List.toArray [.slice cY p1.length cZ]) 28 (0,0)) → Mut h w b3 (.cells (List.toArray [I 0,I 0,.string ByteArray.empty,.slice none 0 0,.slice none 0 0]) 31 (0,0)) → w0.heap.size ≤ b3 → Own 31 w0.heap.size h w a6 c6 l3 → ¬ blk a6 b1 → ¬ blk a6 b3 → b1 ≠ b3 → l34_2 k p0 p1 r3 l3 i3 = some r → Run X34 [.code c34_24,.inLoop c34_24,.inBlock 1,.code c34_36,.inBlock 0,.code c34_40] σ w (.fn (Q34 w0 h0 r))
abbrev Q17 (w0 : World) (h0 : Sto) (r : GNode × Int) : Value → World → Prop := fun v w' => ∃ (a1 : OA) (c2 : Nat) (a4 : OA) (c5 : Nat) (h' : Sto),v = .tuple #[.agg #[I r.1.Op,I r.1.N,.string r.1.Name,.slice a1 r.1.Index.length c2,.slice a4 r.1.L.length c5],I r.2] ∧ St w0 noM h0 h' w' ∧ SlR h' a1 c2 r.1.Index ∧ SlR h' a4 c5 r.1.L
abbrev S17 (k : Nat) : Prop := ∀ {p0 : GStmt} {aG bO cR : OA} {aH bP cS : Nat} {w0 : World} {h0 : Sto},Has h0 w0 → SlR h0 aG aH p0.Index → SlR h0 bO bP p0.E.Index → SlR h0 cR cS p0.E.L → ∀ {r : GNode × Int},m17 k p0 = some r → Calls Try.prog 17 (List.toArray [.agg #[.string p0.Name,.slice aG p0.Index.length aH,I p0.E.Op,I p0.E.N,.string p0.E.Name,.slice bO p0.E.Index.length bP,.slice cR p0.E.L.length cS]]) w0 (Ret (Q17 w0 h0 r))
abbrev Q32 (w0 : World) (h0 : Sto) (r : Bool) : Value → World → Prop := fun v w' => ∃ (h' : Sto),v = .bool r ∧ St w0 noM h0 h' w'
abbrev S32 : Prop := ∀ {p0 : GDecl} {dM : OA} {dN p1_b : Nat} {p1_0 : ByteArray} {w0 : World} {h0 : Sto},Has h0 w0 → SlR h0 dM dN p0.Shape → h0 p1_b = some (.cells (List.toArray [.string p1_0]) 9 (0,0)) → ∀ {r : Bool},m32 p0 p1_0 = some r → Calls Try.prog 32 (List.toArray [.agg #[.string p0.Name,.slice dM p0.Shape.length dN,.string p0.Form,I p0.Block],.pointer (some ⟨p1_b,0,none⟩)]) w0 (Ret (Q32 w0 h0 r))
abbrev Q31 (w0 : World) (h0 : Sto) (r : Int) : Value → World → Prop := fun v w' => ∃ (h' : Sto),v = I r ∧ St w0 noM h0 h' w'
abbrev S31 (k : Nat) : Prop := ∀ {p0 : (List GDecl)} {bA : OA} {bC cU : Nat} {cP : ByteArray} {w0 : World} {h0 : Sto},Has h0 w0 → SlR h0 bA bC p0 → h0 cU = some (.cells (List.toArray [.string cP]) 9 (0,0)) → ∀ {r : Int},m31 k p0 cP = some r → Calls Try.prog 31 (List.toArray [.slice bA p0.length bC,.func (.func 32) #[] #[.pointer (some ⟨cU,0,none⟩)]]) w0 (Ret (Q31 w0 h0 r))
abbrev SLl31_0 (k : Nat) : Prop := ∀ {p0 : (List GDecl)} {bA : OA} {bC cU j1 : Nat} {cP : ByteArray} {w0 w : World} {h0 h : Sto} {σ : Env} {xs1 : List GDecl} {r : Int},St w0 noM h0 h w → σ 0 = .slice bA p0.length bC → σ 1 = .func (.func 32) #[] #[.pointer (some ⟨cU,0,none⟩)] → σ 7 = I (p0.length : Int) → σ 8 = I (j1 : Int) → SlR h bA bC p0 → h cU = some (.cells (List.toArray [.string cP]) 9 (0,0)) → p0.drop j1 = xs1 → l31_0 k cP j1 xs1 = some r → Run X31 [.code c31_7,.inLoop c31_7,.inBlock 0,.code c31_25] σ w (.fn (Q31 w0 h0 r))
abbrev Q13 (w0 : World) (h0 : Sto) (r : GDecl × Bool) : Value → World → Prop := fun v w' => ∃ (a1 : OA) (c2 : Nat) (h' : Sto),v = .tuple #[.agg #[.string r.1.Name,.slice a1 r.1.Shape.length c2,.string r.1.Form,I r.1.Block],.bool r.2] ∧ St w0 noM h0 h' w' ∧ SlR h' a1 c2 r.1.Shape
abbrev S13 (k : Nat) : Prop := ∀ {p0 : ByteArray} {p1 : (List GDecl)} {cY : OA} {cZ : Nat} {w0 : World} {h0 : Sto},Has h0 w0 → SlR h0 cY cZ p1 → ∀ {r : GDecl × Bool},m13 k p0 p1 = some r → Calls Try.prog 13 (List.toArray [.string p0,.slice cY p1.length cZ]) w0 (Ret (Q13 w0 h0 r))
abbrev Q82 (w0 : World) (h0 : Sto) (r : (List GSpec)) : Value → World → Prop := fun v w' => ∃ (a1 : OA) (c2 : Nat) (h' : Sto),v = .slice a1 r.length c2 ∧ St w0 noM h0 h' w' ∧ Own 137 w0.heap.size h' w' a1 c2 r
abbrev S82 (k : Nat) : Prop := ∀ {p0 : (List Int)} {bA : OA} {bC : Nat} {w0 : World} {h0 : Sto},Has h0 w0 → SlR h0 bA bC p0 → ∀ {r : (List GSpec)},m82 k p0 = some r → Calls Try.prog 82 (List.toArray [.slice bA p0.length bC]) w0 (Ret (Q82 w0 h0 r))
abbrev SLl82_0 (k : Nat) : Prop := ∀ {p0 : (List Int)} {bA a1 : OA} {bC c1 : Nat} {w0 w : World} {h0 h : Sto} {σ : Env} {l1 : (List GSpec)} {i1 : Int} {r : (List GSpec)},St w0 noM h0 h w → σ 0 = .slice bA p0.length bC → σ 2 = .slice a1 l1.length c1 → σ 3 = I i1 → SlR h bA bC p0 → Own 137 w0.heap.size h w a1 c1 l1 → l82_0 k p0 l1 i1 = some r → Run X82 [.code c82_7,.inLoop c82_7,.inBlock 0,.code c82_17] σ w (.fn (Q82 w0 h0 r))
abbrev Q83 (w0 : World) (h0 : Sto) (r : (List GSpec)) : Value → World → Prop := fun v w' => ∃ (a1 : OA) (c2 : Nat) (h' : Sto),v = .slice a1 r.length c2 ∧ St w0 noM h0 h' w' ∧ SlR h' a1 c2 r
abbrev S83 (k : Nat) : Prop := ∀ {p0 p1 p2_0 : Int} {p2_b : Nat} {w0 : World} {h0 : Sto},Has h0 w0 → h0 p2_b = some (.cells (List.toArray [I p2_0]) 3 (0,0)) → ∀ {r : (List GSpec)},m83 k p0 p1 p2_0 = some r → Calls Try.prog 83 (List.toArray [I p0,I p1,.pointer (some ⟨p2_b,0,none⟩)]) w0 (Ret (Q83 w0 h0 r))
abbrev SLl83_0 (k : Nat) : Prop := ∀ {p0 p1 p2_0 i1 : Int} {w0 w : World} {h0 h : Sto} {σ : Env} {l1 : (List GSpec)} {a1 : OA} {c1 : Nat} {r : (List GSpec)},St w0 noM h0 h w → σ 0 = I p0 → σ 1 = I p1 → σ 5 = .slice a1 l1.length c1 → σ 7 = I p2_0 → σ 8 = I i1 → Own 137 w0.heap.size h w a1 c1 l1 → l83_0 k p0 p1 p2_0 l1 i1 = some r → Run X83 [.code c83_7,.inLoop c83_7,.inBlock 0,.code c83_21] σ w (.fn (Q83 w0 h0 r))
abbrev Q56 (w0 : World) (h0 : Sto) (r : (List GSpec) × Int) : Value → World → Prop := fun v w' => ∃ (a1 : OA) (c2 : Nat) (h' : Sto),v = .tuple #[.slice a1 r.1.length c2,I r.2] ∧ St w0 noM h0 h' w' ∧ SlR h' a1 c2 r.1
abbrev S56 (k : Nat) : Prop := ∀ {p0 : ByteArray} {p1 p2 : Int} {w0 : World} {h0 : Sto},Has h0 w0 → ∀ {r : (List GSpec) × Int},m56 k p0 p1 p2 = some r → Calls Try.prog 56 (List.toArray [.string p0,I p1,I p2]) w0 (Ret (Q56 w0 h0 r))
abbrev Q97 (w0 : World) (h0 : Sto) (r : Bool) : Value → World → Prop := fun v w' => ∃ (h' : Sto),v = .bool r ∧ St w0 noM h0 h' w'
abbrev S97 : Prop := ∀ {p0 : Int} {w0 : World} {h0 : Sto},Has h0 w0 → ∀ {r : Bool},m97 p0 = some r → Calls Try.prog 97 (List.toArray [I p0]) w0 (Ret (Q97 w0 h0 r))
abbrev Q91_1 (w0 : World) (h0 : Sto) (r : Int) : Value → World → Prop := fun v w' => ∃ (h' : Sto),v = I r ∧ St w0 noM h0 h' w'
abbrev S91_1 (k : Nat) : Prop := ∀ {p0 : (List Int)} {bA : OA} {bC : Nat} {w0 : World} {h0 : Sto},Has h0 w0 → SlR h0 bA bC p0 → ∀ {r : Int},m91_1 k p0 = some r → Calls Try.prog 91 (List.toArray [.slice bA p0.length bC,.func (.func 97) #[] #[]]) w0 (Ret (Q91_1 w0 h0 r))
abbrev SLl91_1_0 (k : Nat) : Prop := ∀ {p0 : (List Int)} {bA : OA} {bC j1 : Nat} {w0 w : World} {h0 h : Sto} {σ : Env} {xs1 : List Int} {r : Int},St w0 noM h0 h w → σ 0 = .slice bA p0.length bC → σ 1 = .func (.func 97) #[] #[] → σ 7 = I (p0.length : Int) → σ 8 = I (j1 : Int) → SlR h bA bC p0 → p0.drop j1 = xs1 → l91_1_0 k j1 xs1 = some r → Run X91 [.code c91_7,.inLoop c91_7,.inBlock 0,.code c91_25] σ w (.fn (Q91_1 w0 h0 r))
abbrev Q77_1 (w0 : World) (h0 : Sto) (r : Bool) : Value → World → Prop := fun v w' => ∃ (h' : Sto),v = .bool r ∧ St w0 noM h0 h' w'
abbrev S77_1 (k : Nat) : Prop := ∀ {p0 : (List Int)} {bA : OA} {bC : Nat} {w0 : World} {h0 : Sto},Has h0 w0 → SlR h0 bA bC p0 → ∀ {r : Bool},m77_1 k p0 = some r → Calls Try.prog 77 (List.toArray [.slice bA p0.length bC,.func (.func 97) #[] #[]]) w0 (Ret (Q77_1 w0 h0 r))
abbrev Q101 (w0 : World) (h0 : Sto) (r : Int) : Value → World → Prop := fun v w' => ∃ (h' : Sto),v = I r ∧ St w0 noM h0 h' w'
abbrev S101 (k : Nat) : Prop := ∀ {p0 : (List Int)} {bA : OA} {bC : Nat} {p1 : Int} {w0 : World} {h0 : Sto},Has h0 w0 → SlR h0 bA bC p0 → ∀ {r : Int},m101 k p0 p1 = some r → Calls Try.prog 101 (List.toArray [.slice bA p0.length bC,I p1]) w0 (Ret (Q101 w0 h0 r))
abbrev SLl101_0 (k : Nat) : Prop := ∀ {p0 : (List Int)} {bA : OA} {bC j1 : Nat} {p1 : Int} {w0 w : World} {h0 h : Sto} {σ : Env} {xs1 : List Int} {r : Int},St w0 noM h0 h w → σ 0 = .slice bA p0.length bC → σ 1 = I p1 → σ 7 = I (p0.length : Int) → σ 8 = I (j1 : Int) → SlR h bA bC p0 → p0.drop j1 = xs1 → l101_0 k p1 j1 xs1 = some r → Run X101 [.code c101_7,.inLoop c101_7,.inBlock 0,.code c101_25] σ w (.fn (Q101 w0 h0 r))
abbrev Q98 (w0 : World) (h0 : Sto) (r : Bool) : Value → World → Prop := fun v w' => ∃ (h' : Sto),v = .bool r ∧ St w0 noM h0 h' w'
abbrev S98 (k : Nat) : Prop := ∀ {p0 : (List Int)} {bA : OA} {bC : Nat} {p1 : Int} {w0 : World} {h0 : Sto},Has h0 w0 → SlR h0 bA bC p0 → ∀ {r : Bool},m98 k p0 p1 = some r → Calls Try.prog 98 (List.toArray [.slice bA p0.length bC,I p1]) w0 (Ret (Q98 w0 h0 r))
abbrev Q99 (w0 : World) (h0 : Sto) (r : Int × Int) : Value → World → Prop := fun v w' => ∃ (h' : Sto),v = .tuple #[.int .u64 r.1,.int .u64 r.2] ∧ St w0 noM h0 h' w'
abbrev S99 : Prop := ∀ {p0 p1 : Int} {w0 : World} {h0 : Sto},Has h0 w0 → ∀ {r : Int × Int},m99 p0 p1 = some r → Calls Try.prog 99 (List.toArray [.int .u64 p0,.int .u64 p1]) w0 (Ret (Q99 w0 h0 r))
abbrev Q93 (w0 : World) (h0 : Sto) (r : Int × Int) : Value → World → Prop := fun v w' => ∃ (h' : Sto),v = .tuple #[I r.1,I r.2] ∧ St w0 noM h0 h' w'
abbrev S93 (k : Nat) : Prop := ∀ {p0 : (List Int)} {bA : OA} {bC : Nat} {w0 : World} {h0 : Sto},Has h0 w0 → SlR h0 bA bC p0 → ∀ {r : Int × Int},m93 k p0 = some r → Calls Try.prog 93 (List.toArray [.slice bA p0.length bC]) w0 (Ret (Q93 w0 h0 r))
abbrev SLl93_0 (k : Nat) : Prop := ∀ {p0 : (List Int)} {bA : OA} {bC j3 : Nat} {w0 w : World} {h0 h : Sto} {σ : Env} {i1 : Int} {xs1 : List Int} {r : Int × Int},St w0 noM h0 h w → σ 4 = .int .u64 i1 → σ 18 = .slice bA p0.length bC → σ 19 = I (p0.length : Int) → σ 20 = I (j3 : Int) → SlR h bA bC p0 → p0.drop j3 = xs1 → l93_0 k i1 xs1 = some r → Run X93 [.code c93_25,.inLoop c93_25,.inBlock 0,.code c93_47] σ w (.fn (Q93 w0 h0 r))
abbrev Q94 (w0 : World) (h0 : Sto) (r : GModes × Bool) : Value → World → Prop := fun v w' => ∃ (h' : Sto),v = .tuple #[.agg #[.bool r.1.e0.met,I r.1.e0.block,.bool r.1.e1.met,I r.1.e1.block,.bool r.1.e2.met,I r.1.e2.block,.bool r.1.e3.met,I r.1.e3.block],.bool r.2] ∧ St w0 noM h0 h' w'
abbrev S94 (k : Nat) : Prop := ∀ {p0 : (List Int)} {bA cY : OA} {bC cZ : Nat} {p1 : (List GSpec)} {w0 : World} {h0 : Sto},Has h0 w0 → SlR h0 bA bC p0 → SlR h0 cY cZ p1 → ∀ {r : GModes × Bool},m94 k p0 p1 = some r → Calls Try.prog 94 (List.toArray [.slice bA p0.length bC,.slice cY p1.length cZ]) w0 (Ret (Q94 w0 h0 r))
abbrev SLl94_0 (k : Nat) : Prop := ∀ {p0 : (List Int)} {bA cY : OA} {bC cZ b1 j1 : Nat} {p1 : (List GSpec)} {w0 w : World} {h0 h : Sto} {σ : Env} {b2 b3 b4 b5 : Bool} {i1 i2 i3 i4 i5 : Int} {xs1 : List GSpec} {r : GModes × Bool},St w0 noM h0 h w → σ 0 = .slice bA p0.length bC → σ 4 = .pointer (some ⟨b1,0,none⟩) → σ 6 = I i5 → σ 12 = .slice cY p1.length cZ → σ 13 = I (p1.length : Int) → σ 14 = I (j1 : Int) → SlR h bA bC p0 → Mut h w b1 (.cells (List.toArray [.bool b2,I i1,.bool b3,I i2,.bool b4,I i3,.bool b5,I i4]) 154 (0,0)) → w0.heap.size ≤ b1 → SlR h cY cZ p1 → p1.drop j1 = xs1 → l94_0 k p0 b2 i1 b3 i2 b4 i3 b5 i4 i5 xs1 = some r → Run X94 [.code c94_9,.inLoop c94_9,.inBlock 0,.code c94_70] σ w (.fn (Q94 w0 h0 r))
abbrev SLl94_1 (k : Nat) : Prop := ∀ {p0 : (List Int)} {w0 w : World} {h0 h : Sto} {b1 : Nat} {σ : Env} {b6 b7 b8 b9 : Bool} {i6 i7 i8 i9 i10 : Int} {r : GModes × Bool},St w0 noM h0 h w → σ 4 = .pointer (some ⟨b1,0,none⟩) → σ 110 = I (p0.length : Int) → σ 111 = I i10 → Mut h w b1 (.cells (List.toArray [.bool b6,I i6,.bool b7,I i7,.bool b8,I i8,.bool b9,I i9]) 154 (0,0)) → w0.heap.size ≤ b1 → l94_1 k p0 b6 i6 b7 i7 b8 i8 b9 i9 i10 = some r → Run X94 [.code c94_75,.inLoop c94_75,.inBlock 3,.code c94_93] σ w (.fn (Q94 w0 h0 r))
abbrev Q84 (w0 : World) (h0 : Sto) (r : (List Int) × Int) : Value → World → Prop := fun v w' => ∃ (a1 : OA) (c2 : Nat) (h' : Sto),v = .tuple #[.slice a1 r.1.length c2,I r.2] ∧ St w0 noM h0 h' w' ∧ SlR h' a1 c2 r.1
abbrev S84 (k : Nat) : Prop := ∀ {p0 : (List Int)} {bA cY : OA} {bC cZ : Nat} {p1 : (List GSpec)} {w0 : World} {h0 : Sto},Has h0 w0 → SlR h0 bA bC p0 → SlR h0 cY cZ p1 → ∀ {r : (List Int) × Int},m84 k p0 p1 = some r → Calls Try.prog 84 (List.toArray [.slice bA p0.length bC,.slice cY p1.length cZ]) w0 (Ret (Q84 w0 h0 r))
abbrev SLl84_0 (k : Nat) : Prop := ∀ {p0 l1 : (List Int)} {bA cY a1 : OA} {bC cZ b1 c1 j3 : Nat} {p1 : (List GSpec)} {w0 w : World} {h0 h : Sto} {r2 : GModes × Bool} {σ : Env} {xs1 : List GSpec} {r : (List Int) × Int},St w0 noM h0 h w → σ 0 = .slice bA p0.length bC → σ 8 = .pointer (some ⟨b1,0,none⟩) → σ 10 = .slice a1 l1.length c1 → σ 33 = .slice cY p1.length cZ → σ 34 = I (p1.length : Int) → σ 35 = I (j3 : Int) → SlR h bA bC p0 → h b1 = some (.cells (List.toArray [.bool r2.1.e0.met,I r2.1.e0.block,.bool r2.1.e1.met,I r2.1.e1.block,.bool r2.1.e2.met,I r2.1.e2.block,.bool r2.1.e3.met,I r2.1.e3.block]) 154 (0,0)) → Own 3 w0.heap.size h w a1 c1 l1 → SlR h cY cZ p1 → p1.drop j3 = xs1 → l84_0 k p0 r2 j3 l1 xs1 = some r → Run X84 [.code c84_29,.inLoop c84_29,.inBlock 0,.code c84_60] σ w (.fn (Q84 w0 h0 r))
abbrev Q57 (w0 : World) (h0 : Sto) (r : Int) : Value → World → Prop := fun v w' => ∃ (h' : Sto),v = I r ∧ St w0 noM h0 h' w'
abbrev S57 (k : Nat) : Prop := ∀ {p0 : (List Int)} {bA cY : OA} {bC cZ : Nat} {p1 : (List GSpec)} {w0 : World} {h0 : Sto},Has h0 w0 → SlR h0 bA bC p0 → SlR h0 cY cZ p1 → ∀ {r : Int},m57 k p0 p1 = some r → Calls Try.prog 57 (List.toArray [.slice bA p0.length bC,.slice cY p1.length cZ]) w0 (Ret (Q57 w0 h0 r))
abbrev Q33 (w0 : World) (h0 : Sto) (r : (List GSpec) × Int) : Value → World → Prop := fun v w' => ∃ (a1 : OA) (c2 : Nat) (h' : Sto),v = .tuple #[.slice a1 r.1.length c2,I r.2] ∧ St w0 noM h0 h' w' ∧ SlR h' a1 c2 r.1
abbrev S33 (k : Nat) : Prop := ∀ {p0 : GDecl} {dM : OA} {dN : Nat} {w0 : World} {h0 : Sto},Has h0 w0 → SlR h0 dM dN p0.Shape → ∀ {r : (List GSpec) × Int},m33 k p0 = some r → Calls Try.prog 33 (List.toArray [.agg #[.string p0.Name,.slice dM p0.Shape.length dN,.string p0.Form,I p0.Block]]) w0 (Ret (Q33 w0 h0 r))
abbrev Q15 (w0 : World) (h0 : Sto) (r : Int × Int) : Value → World → Prop := fun v w' => ∃ (h' : Sto),v = .tuple #[I r.1,I r.2] ∧ St w0 noM h0 h' w'
abbrev S15 (k : Nat) : Prop := ∀ {p0 : (List GDecl)} {bA : OA} {bC : Nat} {w0 : World} {h0 : Sto},Has h0 w0 → SlR h0 bA bC p0 → ∀ {r : Int × Int},m15 k p0 = some r → Calls Try.prog 15 (List.toArray [.slice bA p0.length bC]) w0 (Ret (Q15 w0 h0 r))
abbrev SLl15_0 (k : Nat) : Prop := ∀ {p0 : (List GDecl)} {bA : OA} {bC j1 : Nat} {w0 w : World} {h0 h : Sto} {σ : Env} {xs1 : List GDecl} {r : Int × Int},St w0 noM h0 h w → σ 0 = .slice bA p0.length bC → σ 9 = I (p0.length : Int) → σ 10 = I (j1 : Int) → SlR h bA bC p0 → p0.drop j1 = xs1 → l15_0 k p0 j1 xs1 = some r → Run X15 [.code c15_7,.inLoop c15_7,.inBlock 0,.code c15_45] σ w (.fn (Q15 w0 h0 r))
abbrev Q27 (w0 : World) (h0 : Sto) (r : (List Int) × Int) : Value → World → Prop := fun v w' => ∃ (a1 : OA) (c2 : Nat) (h' : Sto),v = .tuple #[.slice a1 r.1.length c2,I r.2] ∧ St w0 noM h0 h' w' ∧ SlR h' a1 c2 r.1
abbrev S27 (k : Nat) : Prop := ∀ {p0 : (List GDecl)} {bA p2_a : OA} {bC p2_c : Nat} {p1 : ByteArray} {p2 : (List ByteArray)} {w0 : World} {h0 : Sto},Has h0 w0 → SlR h0 bA bC p0 → SlR h0 p2_a p2_c p2 → ∀ {r : (List Int) × Int},m27 k p0 p1 p2 = some r → Calls Try.prog 27 (List.toArray [.slice bA p0.length bC,.string p1,.slice p2_a p2.length p2_c]) w0 (Ret (Q27 w0 h0 r))
abbrev Q52 (w0 : World) (h0 : Sto) (r : Bool) : Value → World → Prop := fun v w' => ∃ (h' : Sto),v = .bool r ∧ St w0 noM h0 h' w'
abbrev S52 : Prop := ∀ {p0 : GDim} {p1_b p1_0_c p2_b : Nat} {p1_0 : (List ByteArray)} {p1_0_a : OA} {p2_0 : Int} {w0 : World} {h0 : Sto},Has h0 w0 → SlR h0 p1_0_a p1_0_c p1_0 → h0 p1_b = some (.cells (List.toArray [.slice p1_0_a p1_0.length p1_0_c]) 28 (0,0)) → h0 p2_b = some (.cells (List.toArray [I p2_0]) 3 (0,0)) → ∀ {r : Bool},m52 p0 p1_0 p2_0 = some r → Calls Try.prog 52 (List.toArray [.agg #[.string p0.Name,I p0.Size],.pointer (some ⟨p1_b,0,none⟩),.pointer (some ⟨p2_b,0,none⟩)]) w0 (Ret (Q52 w0 h0 r))
abbrev Q51 (w0 : World) (h0 : Sto) (r : Int) : Value → World → Prop := fun v w' => ∃ (h' : Sto),v = I r ∧ St w0 noM h0 h' w'
abbrev S51 (k : Nat) : Prop := ∀ {p0 : (List GDim)} {bA p1_v0_0_a : OA} {bC cU p1_v0_0_c p1_v1_b : Nat} {cP : (List ByteArray)} {p1_v1_0 : Int} {w0 : World} {h0 : Sto},Has h0 w0 → SlR h0 bA bC p0 → SlR h0 p1_v0_0_a p1_v0_0_c cP → h0 cU = some (.cells (List.toArray [.slice p1_v0_0_a cP.length p1_v0_0_c]) 28 (0,0)) → h0 p1_v1_b = some (.cells (List.toArray [I p1_v1_0]) 3 (0,0)) → ∀ {r : Int},m51 k p0 cP p1_v1_0 = some r → Calls Try.prog 51 (List.toArray [.slice bA p0.length bC,.func (.func 52) #[] #[.pointer (some ⟨cU,0,none⟩),.pointer (some ⟨p1_v1_b,0,none⟩)]]) w0 (Ret (Q51 w0 h0 r))
abbrev SLl51_0 (k : Nat) : Prop := ∀ {p0 : (List GDim)} {bA p1_v0_0_a : OA} {bC cU p1_v0_0_c p1_v1_b j1 : Nat} {cP : (List ByteArray)} {p1_v1_0 : Int} {w0 w : World} {h0 h : Sto} {σ : Env} {xs1 : List GDim} {r : Int},St w0 noM h0 h w → σ 0 = .slice bA p0.length bC → σ 1 = .func (.func 52) #[] #[.pointer (some ⟨cU,0,none⟩),.pointer (some ⟨p1_v1_b,0,none⟩)] → σ 7 = I (p0.length : Int) → σ 8 = I (j1 : Int) → SlR h bA bC p0 → SlR h p1_v0_0_a p1_v0_0_c cP → h cU = some (.cells (List.toArray [.slice p1_v0_0_a cP.length p1_v0_0_c]) 28 (0,0)) → h p1_v1_b = some (.cells (List.toArray [I p1_v1_0]) 3 (0,0)) → p0.drop j1 = xs1 → l51_0 k cP p1_v1_0 j1 xs1 = some r → Run X51 [.code c51_7,.inLoop c51_7,.inBlock 0,.code c51_25] σ w (.fn (Q51 w0 h0 r))
abbrev Q29 (w0 : World) (h0 : Sto) (aS : Nat) (fE : OA) (p0_1_B : Nat) (r : Int × (List GDecl) × (List GDim)) : Value → World → Prop := fun v w' => ∃ (a1 : OA) (c2 : Nat) (a4 : OA) (c5 : Nat) (h' : Sto),v = I r.1 ∧ St w0 (fun x => x = aS ∨ (blk fE x)) h0 h' w' ∧ SlR h' a1 c2 r.2.1 ∧ Own 39 p0_1_B h' w' a4 c5 r.2.2 ∧ (∀ x,blk a4 x → blk fE x ∨ w0.heap.size ≤ x) ∧ Mut h' w' aS (.cells (List.toArray [.slice a1 r.2.1.length c2,.slice a4 r.2.2.length c5]) 72 (0,0))
abbrev S29 (k : Nat) : Prop := ∀ {aS bW p0_1_c p0_1_B p2_c : Nat} {cJ : (List GDecl)} {bX fE p2_a : OA} {cW : (List GDim)} {p1 : ByteArray} {p2 : (List ByteArray)} {w0 : World} {h0 : Sto},Has h0 w0 → SlR h0 bX bW cJ → p0_1_B ≤ w0.heap.size → Own 39 p0_1_B h0 w0 fE p0_1_c cW → Mut h0 w0 aS (.cells (List.toArray [.slice bX cJ.length bW,.slice fE cW.length p0_1_c]) 72 (0,0)) → SlR h0 p2_a p2_c p2 → ∀ {r : Int × (List GDecl) × (List GDim)},m29 k cJ cW p1 p2 = some r → Calls Try.prog 29 (List.toArray [.pointer (some ⟨aS,0,none⟩),.string p1,.slice p2_a p2.length p2_c]) w0 (Ret (Q29 w0 h0 aS fE p0_1_B r))
abbrev SLl29_0 (k : Nat) : Prop := ∀ {aS p0_1_B p2_c b1 cd1_6_7 c1 c2 j1 : Nat} {fE p2_a ad1_6_6 a1 a2 : OA} {p2 : (List ByteArray)} {w0 w : World} {h0 h : Sto} {dG : (List Int) × Int} {σ : Env} {l1 : (List GDecl)} {l2 : (List GDim)} {xs1 : List Int} {r : Int × (List GDecl) × (List GDim)},St w0 (fun x => x = aS ∨ (blk fE x)) h0 h w → σ 0 = .pointer (some ⟨aS,0,none⟩) → σ 5 = .pointer (some ⟨b1,0,none⟩) → σ 8 = I dG.2 → σ 22 = .slice ad1_6_6 dG.1.length cd1_6_7 → σ 23 = I (dG.1.length : Int) → σ 24 = I (j1 : Int) → SlR h a1 c1 l1 → Own 39 p0_1_B h w a2 c2 l2 → (∀ x,blk a2 x → blk fE x ∨ w0.heap.size ≤ x) → p0_1_B ≤ w0.heap.size → Mut h w aS (.cells (List.toArray [.slice a1 l1.length c1,.slice a2 l2.length c2]) 72 (0,0)) → SlR h p2_a p2_c p2 → h b1 = some (.cells (List.toArray [.slice p2_a p2.length p2_c]) 28 (0,0)) → SlR h ad1_6_6 cd1_6_7 dG.1 → dG.1.drop j1 = xs1 → l29_0 k p2 dG j1 l1 l2 xs1 = some r → Run X29 [.code c29_9,.inLoop c29_9,.inBlock 0,.code c29_33] σ w (.fn (Q29 w0 h0 aS fE p0_1_B r))
abbrev Q12 (w0 : World) (h0 : Sto) (r : (List GNode)) : Value → World → Prop := fun v w' => ∃ (a1 : OA) (c2 : Nat) (h' : Sto),v = .slice a1 r.length c2 ∧ St w0 noM h0 h' w' ∧ SlR h' a1 c2 r
abbrev S12 (k : Nat) : Prop := ∀ {p0 : GNode} {aG bD : OA} {aH bE : Nat} {w0 : World} {h0 : Sto},Has h0 w0 → SlR h0 aG aH p0.Index → SlR h0 bD bE p0.L → ∀ {r : (List GNode)},m12 k p0 = some r → Calls Try.prog 12 (List.toArray [.agg #[I p0.Op,I p0.N,.string p0.Name,.slice aG p0.Index.length aH,.slice bD p0.L.length bE]]) w0 (Ret (Q12 w0 h0 r))
abbrev SLl12_0 (k : Nat) : Prop := ∀ {p0 : GNode} {bD a1 : OA} {bE c1 j2 : Nat} {w0 w : World} {h0 h : Sto} {σ : Env} {l1 : (List GNode)} {xs1 : List GNode} {r : (List GNode)},St w0 noM h0 h w → σ 2 = .slice a1 l1.length c1 → σ 11 = .slice bD p0.L.length bE → σ 12 = I (p0.L.length : Int) → σ 13 = I (j2 : Int) → Own 31 w0.heap.size h w a1 c1 l1 → SlR h bD bE p0.L → p0.L.drop j2 = xs1 → l12_0 k l1 xs1 = some r → Run X12 [.code c12_15,.inLoop c12_15,.inBlock 0,.code c12_27] σ w (.fn (Q12 w0 h0 r))
abbrev Q53 (w0 : World) (h0 : Sto) (r : Bool) : Value → World → Prop := fun v w' => ∃ (h' : Sto),v = .bool r ∧ St w0 noM h0 h' w'
abbrev S53 (k : Nat) : Prop := ∀ {p0 : GNode} {aG bD p1_3_a p1_4_a : OA} {aH bE p1_b p1_3_c p1_4_c : Nat} {p1_0 p1_1 : Int} {p1_2 : ByteArray} {p1_3 : (List ByteArray)} {p1_4 : (List GNode)} {w0 : World} {h0 : Sto},Has h0 w0 → SlR h0 aG aH p0.Index → SlR h0 bD bE p0.L → SlR h0 p1_3_a p1_3_c p1_3 → SlR h0 p1_4_a p1_4_c p1_4 → h0 p1_b = some (.cells (List.toArray [I p1_0,I p1_1,.string p1_2,.slice p1_3_a p1_3.length p1_3_c,.slice p1_4_a p1_4.length p1_4_c]) 31 (0,0)) → ∀ {r : Bool},m53 k p0 p1_0 p1_1 p1_2 p1_3 p1_4 = some r → Calls Try.prog 53 (List.toArray [.agg #[I p0.Op,I p0.N,.string p0.Name,.slice aG p0.Index.length aH,.slice bD p0.L.length bE],.pointer (some ⟨p1_b,0,none⟩)]) w0 (Ret (Q53 w0 h0 r))
abbrev Q81 (w0 : World) (h0 : Sto) (r : Int) : Value → World → Prop := fun v w' => ∃ (h' : Sto),v = I r ∧ St w0 noM h0 h' w'
abbrev S81 (k : Nat) : Prop := ∀ {p0 eE : (List GNode)} {bA eZ fA : OA} {bC cU fB fC : Nat} {cP eP : Int} {eQ : ByteArray} {eD : (List ByteArray)} {w0 : World} {h0 : Sto},Has h0 w0 → SlR h0 bA bC p0 → SlR h0 eZ fB eD → SlR h0 fA fC eE → h0 cU = some (.cells (List.toArray [I cP,I eP,.string eQ,.slice eZ eD.length fB,.slice fA eE.length fC]) 31 (0,0)) → ∀ {r : Int},m81 k p0 cP eP eQ eD eE = some r → Calls Try.prog 81 (List.toArray [.slice bA p0.length bC,.func (.func 53) #[] #[.pointer (some ⟨cU,0,none⟩)]]) w0 (Ret (Q81 w0 h0 r))
abbrev SLl81_0 (k : Nat) : Prop := ∀ {p0 eE : (List GNode)} {bA eZ fA : OA} {bC cU fB fC j1 : Nat} {cP eP : Int} {eQ : ByteArray} {eD : (List ByteArray)} {w0 w : World} {h0 h : Sto} {σ : Env} {xs1 : List GNode} {r : Int},St w0 noM h0 h w → σ 0 = .slice bA p0.length bC → σ 1 = .func (.func 53) #[] #[.pointer (some ⟨cU,0,none⟩)] → σ 7 = I (p0.length : Int) → σ 8 = I (j1 : Int) → SlR h bA bC p0 → SlR h eZ fB eD → SlR h fA fC eE → h cU = some (.cells (List.toArray [I cP,I eP,.string eQ,.slice eZ eD.length fB,.slice fA eE.length fC]) 31 (0,0)) → p0.drop j1 = xs1 → l81_0 k cP eP eQ eD eE j1 xs1 = some r → Run X81 [.code c81_7,.inLoop c81_7,.inBlock 0,.code c81_25] σ w (.fn (Q81 w0 h0 r))
abbrev Q54 (w0 : World) (h0 : Sto) (r : Bool) : Value → World → Prop := fun v w' => ∃ (h' : Sto),v = .bool r ∧ St w0 noM h0 h' w'
abbrev S54 (k : Nat) : Prop := ∀ {p0 eE : (List GNode)} {bA eZ fA : OA} {bC cU fB fC : Nat} {cP eP : Int} {eQ : ByteArray} {eD : (List ByteArray)} {w0 : World} {h0 : Sto},Has h0 w0 → SlR h0 bA bC p0 → SlR h0 eZ fB eD → SlR h0 fA fC eE → h0 cU = some (.cells (List.toArray [I cP,I eP,.string eQ,.slice eZ eD.length fB,.slice fA eE.length fC]) 31 (0,0)) → ∀ {r : Bool},m54 k p0 cP eP eQ eD eE = some r → Calls Try.prog 54 (List.toArray [.slice bA p0.length bC,.func (.func 53) #[] #[.pointer (some ⟨cU,0,none⟩)]]) w0 (Ret (Q54 w0 h0 r))
abbrev Q55 (w0 : World) (h0 : Sto) (r : Bool) : Value → World → Prop := fun v w' => ∃ (h' : Sto),v = .bool r ∧ St w0 noM h0 h' w'
abbrev S55 (k : Nat) : Prop := ∀ {p0 : GNode} {aG bD : OA} {aH bE : Nat} {w0 : World} {h0 : Sto},Has h0 w0 → SlR h0 aG aH p0.Index → SlR h0 bD bE p0.L → ∀ {r : Bool},m55 k p0 = some r → Calls Try.prog 55 (List.toArray [.agg #[I p0.Op,I p0.N,.string p0.Name,.slice aG p0.Index.length aH,.slice bD p0.L.length bE]]) w0 (Ret (Q55 w0 h0 r))
abbrev Q81_1 (w0 : World) (h0 : Sto) (r : Int) : Value → World → Prop := fun v w' => ∃ (h' : Sto),v = I r ∧ St w0 noM h0 h' w'
abbrev S81_1 (k : Nat) : Prop := ∀ {p0 : (List GNode)} {bA : OA} {bC : Nat} {w0 : World} {h0 : Sto},Has h0 w0 → SlR h0 bA bC p0 → ∀ {r : Int},m81_1 k p0 = some r → Calls Try.prog 81 (List.toArray [.slice bA p0.length bC,.func (.func 55) #[] #[]]) w0 (Ret (Q81_1 w0 h0 r))
abbrev SLl81_1_0 (k : Nat) : Prop := ∀ {p0 : (List GNode)} {bA : OA} {bC j1 : Nat} {w0 w : World} {h0 h : Sto} {σ : Env} {xs1 : List GNode} {r : Int},St w0 noM h0 h w → σ 0 = .slice bA p0.length bC → σ 1 = .func (.func 55) #[] #[] → σ 7 = I (p0.length : Int) → σ 8 = I (j1 : Int) → SlR h bA bC p0 → p0.drop j1 = xs1 → l81_1_0 k j1 xs1 = some r → Run X81 [.code c81_7,.inLoop c81_7,.inBlock 0,.code c81_25] σ w (.fn (Q81_1 w0 h0 r))
abbrev Q54_1 (w0 : World) (h0 : Sto) (r : Bool) : Value → World → Prop := fun v w' => ∃ (h' : Sto),v = .bool r ∧ St w0 noM h0 h' w'
abbrev S54_1 (k : Nat) : Prop := ∀ {p0 : (List GNode)} {bA : OA} {bC : Nat} {w0 : World} {h0 : Sto},Has h0 w0 → SlR h0 bA bC p0 → ∀ {r : Bool},m54_1 k p0 = some r → Calls Try.prog 54 (List.toArray [.slice bA p0.length bC,.func (.func 55) #[] #[]]) w0 (Ret (Q54_1 w0 h0 r))
abbrev Q30 (w0 : World) (h0 : Sto) (r : Bool) : Value → World → Prop := fun v w' => ∃ (h' : Sto),v = .bool r ∧ St w0 noM h0 h' w'
abbrev S30 (k : Nat) : Prop := ∀ {p0 : GNode} {aG bD : OA} {aH bE : Nat} {w0 : World} {h0 : Sto},Has h0 w0 → SlR h0 aG aH p0.Index → SlR h0 bD bE p0.L → ∀ {r : Bool},m30 k p0 = some r → Calls Try.prog 30 (List.toArray [.agg #[I p0.Op,I p0.N,.string p0.Name,.slice aG p0.Index.length aH,.slice bD p0.L.length bE]]) w0 (Ret (Q30 w0 h0 r))
abbrev Q10 (w0 : World) (h0 : Sto) (r : (List GDim) × Int) : Value → World → Prop := fun v w' => ∃ (a1 : OA) (c2 : Nat) (h' : Sto),v = .tuple #[.slice a1 r.1.length c2,I r.2] ∧ St w0 noM h0 h' w' ∧ SlR h' a1 c2 r.1
abbrev S10 (k : Nat) : Prop := ∀ {p0 : GStmt} {aG bO cR cY : OA} {aH bP cS cZ : Nat} {p1 : (List GDecl)} {w0 : World} {h0 : Sto},Has h0 w0 → SlR h0 aG aH p0.Index → SlR h0 bO bP p0.E.Index → SlR h0 cR cS p0.E.L → SlR h0 cY cZ p1 → ∀ {r : (List GDim) × Int},m10 k p0 p1 = some r → Calls Try.prog 10 (List.toArray [.agg #[.string p0.Name,.slice aG p0.Index.length aH,I p0.E.Op,I p0.E.N,.string p0.E.Name,.slice bO p0.E.Index.length bP,.slice cR p0.E.L.length cS],.slice cY p1.length cZ]) w0 (Ret (Q10 w0 h0 r))
abbrev SLl10_0 (k : Nat) : Prop := ∀ {p0 : GStmt} {aG bO cR cY : OA} {aH bP cS cZ b1 b3 j3 : Nat} {p1 : (List GDecl)} {w0 w : World} {h0 h : Sto} {σ : Env} {xs1 : List ByteArray} {r : (List GDim) × Int},St w0 noM h0 h w → σ 2 = .pointer (some ⟨b1,0,none⟩) → σ 8 = .pointer (some ⟨b3,0,none⟩) → σ 49 = .slice aG p0.Index.length aH → σ 50 = I (p0.Index.length : Int) → σ 51 = I (j3 : Int) → SlR h aG aH p0.Index → SlR h bO bP p0.E.Index → SlR h cR cS p0.E.L → h b1 = some (.cells (List.toArray [.string p0.Name,.slice aG p0.Index.length aH,I p0.E.Op,I p0.E.N,.string p0.E.Name,.slice bO p0.E.Index.length bP,.slice cR p0.E.L.length cS]) 33 (0,0)) → SlR h cY cZ p1 → Mut h w b3 (.cells (List.toArray [.slice cY p1.length cZ,.slice none 0 0]) 72 (0,0)) → w0.heap.size ≤ b3 → p0.Index.drop j3 = xs1 → l10_0 k p0 p1 j3 xs1 = some r → Run X10 [.code c10_29,.inLoop c10_29,.inBlock 0,.code c10_47] σ w (.fn (Q10 w0 h0 r))
abbrev SLl10_1 (k : Nat) : Prop := ∀ {p0 : GStmt} {aG bO cR a3 a4 a5 : OA} {aH bP cS b1 b3 c3 c4 c5 j4 : Nat} {w0 w : World} {h0 h : Sto} {σ : Env} {r4 : (List GNode)} {l1 : (List GDecl)} {l2 : (List GDim)} {i1 : Int} {xs3 : List GNode} {r : (List GDim) × Int},St w0 noM h0 h w → σ 2 = .pointer (some ⟨b1,0,none⟩) → σ 8 = .pointer (some ⟨b3,0,none⟩) → σ 13 = I i1 → σ 71 = .slice a3 r4.length c3 → σ 72 = I (r4.length : Int) → σ 73 = I (j4 : Int) → SlR h aG aH p0.Index → SlR h bO bP p0.E.Index → SlR h cR cS p0.E.L → h b1 = some (.cells (List.toArray [.string p0.Name,.slice aG p0.Index.length aH,I p0.E.Op,I p0.E.N,.string p0.E.Name,.slice bO p0.E.Index.length bP,.slice cR p0.E.L.length cS]) 33 (0,0)) → SlR h a4 c4 l1 → Own 39 w0.heap.size h w a5 c5 l2 → Mut h w b3 (.cells (List.toArray [.slice a4 l1.length c4,.slice a5 l2.length c5]) 72 (0,0)) → w0.heap.size ≤ b3 → SlR h a3 c3 r4 → r4.drop j4 = xs3 → l10_1 k p0 l1 l2 i1 xs3 = some r → Run X10 [.code c10_54,.inLoop c10_54,.inBlock 2,.code c10_70] σ w (.fn (Q10 w0 h0 r))
abbrev Q14 (w0 : World) (h0 : Sto) (r : Int × Int) : Value → World → Prop := fun v w' => ∃ (h' : Sto),v = .tuple #[I r.1,I r.2] ∧ St w0 noM h0 h' w'
abbrev S14 (k : Nat) : Prop := ∀ {p0 : GProg} {bY bS : OA} {bZ bT : Nat} {w0 : World} {h0 : Sto},Has h0 w0 → SlR h0 bY bZ p0.D → SlR h0 bS bT p0.S → ∀ {r : Int × Int},m14 k p0 = some r → Calls Try.prog 14 (List.toArray [.agg #[.slice bY p0.D.length bZ,.slice bS p0.S.length bT]]) w0 (Ret (Q14 w0 h0 r))
abbrev SLl14_0 (k : Nat) : Prop := ∀ {p0 : GProg} {bY bS : OA} {bZ bT b1 j3 : Nat} {w0 w : World} {h0 h : Sto} {σ : Env} {i1 : Int} {xs1 : List GStmt} {r : Int × Int},St w0 noM h0 h w → σ 1 = .pointer (some ⟨b1,0,none⟩) → σ 5 = I i1 → σ 27 = .slice bS p0.S.length bT → σ 28 = I (p0.S.length : Int) → σ 29 = I (j3 : Int) → SlR h bY bZ p0.D → SlR h bS bT p0.S → h b1 = some (.cells (List.toArray [.slice bY p0.D.length bZ,.slice bS p0.S.length bT]) 25 (0,0)) → p0.S.drop j3 = xs1 → l14_0 k p0 i1 xs1 = some r → Run X14 [.code c14_27,.inLoop c14_27,.inBlock 0,.code c14_49] σ w (.fn (Q14 w0 h0 r))
abbrev Q8 (w0 : World) (h0 : Sto) (r : Bool) : Value → World → Prop := fun v w' => ∃ (h' : Sto),v = .bool r ∧ St w0 noM h0 h' w'
abbrev S8 (k : Nat) : Prop := ∀ {w0 : World} {h0 : Sto},Has h0 w0 → ∀ {r : Bool},m8 k = some r → Calls Try.prog 8 (List.toArray []) w0 (Ret (Q8 w0 h0 r))
abbrev Q25 (w0 : World) (h0 : Sto) (r : Bool) : Value → World → Prop := fun v w' => ∃ (h' : Sto),v = .bool r ∧ St w0 noM h0 h' w'
abbrev S25 (k : Nat) : Prop := ∀ {p0 : GNode} {aG bD : OA} {aH bE : Nat} {p1 : Int} {w0 : World} {h0 : Sto},Has h0 w0 → SlR h0 aG aH p0.Index → SlR h0 bD bE p0.L → ∀ {r : Bool},m25 k p0 p1 = some r → Calls Try.prog 25 (List.toArray [.agg #[I p0.Op,I p0.N,.string p0.Name,.slice aG p0.Index.length aH,.slice bD p0.L.length bE],I p1]) w0 (Ret (Q25 w0 h0 r))
abbrev SLl25_0 (k : Nat) : Prop := ∀ {p0 : GNode} {aG bD : OA} {aH bE b1 j2 : Nat} {p1 : Int} {w0 w : World} {h0 h : Sto} {σ : Env} {xs1 : List ByteArray} {r : Bool},St w0 noM h0 h w → σ 1 = I p1 → σ 2 = .pointer (some ⟨b1,0,none⟩) → σ 30 = .slice aG p0.Index.length aH → σ 31 = I (p0.Index.length : Int) → σ 32 = I (j2 : Int) → SlR h aG aH p0.Index → SlR h bD bE p0.L → h b1 = some (.cells (List.toArray [I p0.Op,I p0.N,.string p0.Name,.slice aG p0.Index.length aH,.slice bD p0.L.length bE]) 31 (0,0)) → p0.Index.drop j2 = xs1 → l25_0 k p0 p1 xs1 = some r → Run X25 [.code c25_15,.inLoop c25_15,.inBlock 0,.code c25_33] σ w (.fn (Q25 w0 h0 r))
abbrev SLl25_1 (k : Nat) : Prop := ∀ {p0 : GNode} {bD : OA} {bE j3 : Nat} {p1 : Int} {w0 w : World} {h0 h : Sto} {σ : Env} {xs3 : List GNode} {r : Bool},St w0 noM h0 h w → σ 1 = I p1 → σ 41 = .slice bD p0.L.length bE → σ 42 = I (p0.L.length : Int) → σ 43 = I (j3 : Int) → SlR h bD bE p0.L → p0.L.drop j3 = xs3 → l25_1 k p1 xs3 = some r → Run X25 [.code c25_38,.inLoop c25_38,.inBlock 2,.code c25_56] σ w (.fn (Q25 w0 h0 r))
abbrev Q9 (w0 : World) (h0 : Sto) (r : Bool) : Value → World → Prop := fun v w' => ∃ (h' : Sto),v = .bool r ∧ St w0 noM h0 h' w'
abbrev S9 (k : Nat) : Prop := ∀ {p0 : GProg} {bY bS : OA} {bZ bT : Nat} {w0 : World} {h0 : Sto},Has h0 w0 → SlR h0 bY bZ p0.D → SlR h0 bS bT p0.S → ∀ {r : Bool},m9 k p0 = some r → Calls Try.prog 9 (List.toArray [.agg #[.slice bY p0.D.length bZ,.slice bS p0.S.length bT]]) w0 (Ret (Q9 w0 h0 r))
abbrev SLl9_0 (k : Nat) : Prop := ∀ {p0 : GProg} {bY bS : OA} {bZ bT b1 j1 : Nat} {w0 w : World} {h0 h : Sto} {σ : Env} {xs1 : List GDecl} {r : Bool},St w0 noM h0 h w → σ 1 = .pointer (some ⟨b1,0,none⟩) → σ 10 = .slice bY p0.D.length bZ → σ 11 = I (p0.D.length : Int) → σ 12 = I (j1 : Int) → SlR h bY bZ p0.D → SlR h bS bT p0.S → h b1 = some (.cells (List.toArray [.slice bY p0.D.length bZ,.slice bS p0.S.length bT]) 25 (0,0)) → p0.D.drop j1 = xs1 → l9_0 k p0 xs1 = some r → Run X9 [.code c9_7,.inLoop c9_7,.inBlock 0,.code c9_25] σ w (.fn (Q9 w0 h0 r))
abbrev SLl9_1 (k : Nat) : Prop := ∀ {p0 : GProg} {bY bS : OA} {bZ bT b1 j2 : Nat} {w0 w : World} {h0 h : Sto} {σ : Env} {xs3 : List GStmt} {r : Bool},St w0 noM h0 h w → σ 1 = .pointer (some ⟨b1,0,none⟩) → σ 32 = .slice bS p0.S.length bT → σ 33 = I (p0.S.length : Int) → σ 34 = I (j2 : Int) → SlR h bY bZ p0.D → SlR h bS bT p0.S → h b1 = some (.cells (List.toArray [.slice bY p0.D.length bZ,.slice bS p0.S.length bT]) 25 (0,0)) → p0.S.drop j2 = xs3 → l9_1 k p0 xs3 = some r → Run X9 [.code c9_30,.inLoop c9_30,.inBlock 2,.code c9_71] σ w (.fn (Q9 w0 h0 r))
abbrev SLl9_2 (k : Nat) : Prop := ∀ {p0 : GProg} {bY bS a1 : OA} {bZ bT b1 j2 c1 j5 : Nat} {w0 w : World} {h0 h : Sto} {σ : Env} {x2 : GStmt} {xs4 : List GStmt} {xs5 : List ByteArray} {r : Bool},St w0 noM h0 h w → σ 1 = .pointer (some ⟨b1,0,none⟩) → σ 32 = .slice bS p0.S.length bT → σ 33 = I (p0.S.length : Int) → σ 34 = I (j2 : Int) → σ 55 = .slice a1 x2.Index.length c1 → σ 56 = I (x2.Index.length : Int) → σ 57 = I (j5 : Int) → SlR h bY bZ p0.D → SlR h bS bT p0.S → h b1 = some (.cells (List.toArray [.slice bY p0.D.length bZ,.slice bS p0.S.length bT]) 25 (0,0)) → SlR h a1 c1 x2.Index → x2.Index.drop j5 = xs5 → p0.S.drop (j2 + 1) = xs4 → j2 < p0.S.length → p0.S[j2]? = some x2 → l9_2 k p0 xs4 xs5 = some r → Run X9 [.code c9_52,.inLoop c9_52,.inBlock 4,.inBlock 3,.code c9_70,.inLoop c9_30,.inBlock 2,.code c9_71] σ w (.fn (Q9 w0 h0 r))
abbrev Q11 (w0 : World) (h0 : Sto) (r : Int × Bool) : Value → World → Prop := fun v w' => ∃ (h' : Sto),v = .tuple #[I r.1,.bool r.2] ∧ St w0 noM h0 h' w'
abbrev S11 (k : Nat) : Prop := ∀ {p0 : (List GDim)} {bA : OA} {bC : Nat} {p1 : ByteArray} {w0 : World} {h0 : Sto},Has h0 w0 → SlR h0 bA bC p0 → ∀ {r : Int × Bool},m11 k p0 p1 = some r → Calls Try.prog 11 (List.toArray [.slice bA p0.length bC,.string p1]) w0 (Ret (Q11 w0 h0 r))
abbrev SLl11_0 (k : Nat) : Prop := ∀ {p0 : (List GDim)} {bA : OA} {bC j1 : Nat} {p1 : ByteArray} {w0 w : World} {h0 h : Sto} {σ : Env} {xs1 : List GDim} {r : Int × Bool},St w0 noM h0 h w → σ 1 = .string p1 → σ 8 = .slice bA p0.length bC → σ 9 = I (p0.length : Int) → σ 10 = I (j1 : Int) → SlR h bA bC p0 → p0.drop j1 = xs1 → l11_0 k p1 xs1 = some r → Run X11 [.code c11_7,.inLoop c11_7,.inBlock 0,.code c11_25] σ w (.fn (Q11 w0 h0 r))
abbrev Q3 (w0 : World) (h0 : Sto) (r : Bool) : Value → World → Prop := fun v w' => ∃ (h' : Sto),v = .bool r ∧ St w0 noM h0 h' w'
abbrev S3 (k : Nat) : Prop := ∀ {p0 : GProg} {bY bS : OA} {bZ bT : Nat} {w0 : World} {h0 : Sto},Has h0 w0 → SlR h0 bY bZ p0.D → SlR h0 bS bT p0.S → ∀ {r : Bool},m3 k p0 = some r → Calls Try.prog 3 (List.toArray [.agg #[.slice bY p0.D.length bZ,.slice bS p0.S.length bT]]) w0 (Ret (Q3 w0 h0 r))
abbrev SLl3_0 (k : Nat) : Prop := ∀ {p0 : GProg} {bY bS : OA} {bZ bT b1 j2 : Nat} {w0 w : World} {h0 h : Sto} {r1 : Bool} {σ : Env} {xs1 : List GStmt} {r : Bool},St w0 noM h0 h w → σ 1 = .pointer (some ⟨b1,0,none⟩) → σ 3 = .bool r1 → σ 26 = .slice bS p0.S.length bT → σ 27 = I (p0.S.length : Int) → σ 28 = I (j2 : Int) → SlR h bY bZ p0.D → SlR h bS bT p0.S → h b1 = some (.cells (List.toArray [.slice bY p0.D.length bZ,.slice bS p0.S.length bT]) 25 (0,0)) → p0.S.drop j2 = xs1 → l3_0 k p0 r1 xs1 = some r → Run X3 [.code c3_17,.inLoop c3_17,.inBlock 0,.code c3_110] σ w (.fn (Q3 w0 h0 r))
abbrev SLl3_1 (k : Nat) : Prop := ∀ {p0 : GProg} {bY bS a1 a2 a3 a4 : OA} {bZ bT b1 j2 c1 c2 c3 b3 c4 j4 : Nat} {w0 w : World} {h0 h : Sto} {r1 : Bool} {σ : Env} {x1 : GStmt} {xs2 : List GStmt} {r3 : (List GDim) × Int} {xs3 : List GDim} {r : Bool},St w0 noM h0 h w → σ 1 = .pointer (some ⟨b1,0,none⟩) → σ 3 = .bool r1 → σ 5 = .pointer (some ⟨b3,0,none⟩) → σ 6 = .slice a4 r3.1.length c4 → σ 26 = .slice bS p0.S.length bT → σ 27 = I (p0.S.length : Int) → σ 28 = I (j2 : Int) → σ 41 = .slice a4 r3.1.length c4 → σ 42 = I (r3.1.length : Int) → σ 43 = I (j4 : Int) → SlR h bY bZ p0.D → SlR h bS bT p0.S → h b1 = some (.cells (List.toArray [.slice bY p0.D.length bZ,.slice bS p0.S.length bT]) 25 (0,0)) → SlR h a1 c1 x1.Index → SlR h a2 c2 x1.E.Index → SlR h a3 c3 x1.E.L → h b3 = some (.cells (List.toArray [.string x1.Name,.slice a1 x1.Index.length c1,I x1.E.Op,I x1.E.N,.string x1.E.Name,.slice a2 x1.E.Index.length c2,.slice a3 x1.E.L.length c3]) 33 (0,0)) → SlR h a4 c4 r3.1 → r3.1.drop j4 = xs3 → p0.S.drop (j2 + 1) = xs2 → j2 < p0.S.length → p0.S[j2]? = some x1 → l3_1 k p0 r1 x1 xs2 r3 j4 xs3 = some r → Run X3 [.code c3_40,.inLoop c3_40,.inBlock 2,.code c3_60,.inBlock 1,.code c3_109,.inLoop c3_17,.inBlock 0,.code c3_110] σ w (.fn (Q3 w0 h0 r))
abbrev SLl3_2 (k : Nat) : Prop := ∀ {p0 : GProg} {bY bS a4 a5 : OA} {bZ bT b1 j2 c4 c5 : Nat} {w0 w : World} {h0 h : Sto} {r1 : Bool} {σ : Env} {x1 : GStmt} {xs2 : List GStmt} {r3 : (List GDim) × Int} {y1 : (List GNode)} {y2 i1 : Int} {r : Bool},St w0 noM h0 h w → σ 1 = .pointer (some ⟨b1,0,none⟩) → σ 3 = .bool r1 → σ 6 = .slice a4 r3.1.length c4 → σ 26 = .slice bS p0.S.length bT → σ 27 = I (p0.S.length : Int) → σ 28 = I (j2 : Int) → σ 85 = .slice a5 y1.length c5 → σ 86 = I y2 → σ 87 = I i1 → SlR h bY bZ p0.D → SlR h bS bT p0.S → h b1 = some (.cells (List.toArray [.slice bY p0.D.length bZ,.slice bS p0.S.length bT]) 25 (0,0)) → SlR h a4 c4 r3.1 → SlR h bS bT p0.S → SlR h a5 c5 y1 → p0.S.drop (j2 + 1) = xs2 → j2 < p0.S.length → p0.S[j2]? = some x1 → l3_2 k p0 r1 xs2 r3 y1 y2 i1 = some r → Run X3 [.code c3_64,.inLoop c3_64,.inBlock 4,.inBlock 1,.code c3_109,.inLoop c3_17,.inBlock 0,.code c3_110] σ w (.fn (Q3 w0 h0 r))
abbrev SLl3_3 (k : Nat) : Prop := ∀ {p0 : GProg} {bY bS a4 a5 a6 a8 : OA} {bZ bT b1 j2 c4 c5 c6 c8 b6 j8 : Nat} {w0 w : World} {h0 h : Sto} {r1 : Bool} {σ : Env} {x1 : GStmt} {xs2 : List GStmt} {r3 : (List GDim) × Int} {y1 : (List GNode)} {y2 i1 : Int} {x3 : GNode} {r4 : GDecl × Bool} {xs5 : List ByteArray} {r : Bool},St w0 noM h0 h w → σ 1 = .pointer (some ⟨b1,0,none⟩) → σ 3 = .bool r1 → σ 6 = .slice a4 r3.1.length c4 → σ 14 = .pointer (some ⟨b6,0,none⟩) → σ 26 = .slice bS p0.S.length bT → σ 27 = I (p0.S.length : Int) → σ 28 = I (j2 : Int) → σ 85 = .slice a5 y1.length c5 → σ 86 = I y2 → σ 87 = I i1 → σ 111 = .slice a6 x3.Index.length c6 → σ 112 = I (x3.Index.length : Int) → σ 113 = I (j8 : Int) → SlR h bY bZ p0.D → SlR h bS bT p0.S → h b1 = some (.cells (List.toArray [.slice bY p0.D.length bZ,.slice bS p0.S.length bT]) 25 (0,0)) → SlR h a4 c4 r3.1 → SlR h a8 c8 r4.1.Shape → h b6 = some (.cells (List.toArray [.string r4.1.Name,.slice a8 r4.1.Shape.length c8,.string r4.1.Form,I r4.1.Block]) 45 (0,0)) → SlR h bS bT p0.S → SlR h a5 c5 y1 → SlR h a6 c6 x3.Index → x3.Index.drop j8 = xs5 → p0.S.drop (j2 + 1) = xs2 → j2 < p0.S.length → p0.S[j2]? = some x1 → l3_3 k p0 r1 xs2 r3 y1 y2 i1 r4 j8 xs5 = some r → Run X3 [.code c3_88,.inLoop c3_88,.inBlock 6,.inBlock 5,.code c3_108,.inLoop c3_64,.inBlock 4,.inBlock 1,.code c3_109,.inLoop c3_17,.inBlock 0,.code c3_110] σ w (.fn (Q3 w0 h0 r))
abbrev ZS12 (k : Nat) : Prop := S12 k ∧ SLl12_0 k
theorem S12_z : S12 0 := by
  unfold S12; intros; rename_i H; exact absurd H (by simp [m12])
theorem S12_s (k : Nat) (ih : ZS12 k) : S12 (k + 1) := by
 intro p0 aG bD aH bE w0 h0 hh cN Rp0_L r H
 rw [m12] at H
 refine aO (fn := Try.f12) Try.func12 rfl (Nat.le_of_ble_eq_true rfl) ?_
 show Run X12 [.code c12_0] (fun t => List.getD [.agg #[I p0.Op,I p0.N,.string p0.Name,.slice aG p0.Index.length aH,.slice bD p0.L.length bE]] t undef) w0 (.fn (Q12 w0 h0 r))
 have st0 := St.init hh noM
 refine aB e12_0<|aA e12_1<|eF (.agg #[I p0.Op,I p0.N,.string p0.Name,.slice aG p0.Index.length aH,.slice bD p0.L.length bE]) rfl rfl rfl (fun b1 w1 al1 => ?_)
 replace al1 : Al _ (.cells (List.toArray [I p0.Op,I p0.N,.string p0.Name,.slice aG p0.Index.length aH,.slice bD p0.L.length bE]) 31 (0,0)) b1 w1 := al1
 obtain ⟨h1,le1,g1,sp1⟩ := al1.fz st0.has
 have st1 := st0.call0 sp1
 refine vv rfl (aC (.slice none 0 0) rfl)<|aD<|aB e12_2<|aB e12_3<|aA e12_4<|vv rfl (aF (b := b1) (o := 0) fl31_0 rfl)<|vv rfl (aL (I p0.Op) sc3 rfl ((aQ (st1.has _ _ g1)).trans rfl))<|vv rfl (aP .eql .i64 p0.Op 2 (.bool (decide (p0.Op = 2))) 3 3 rfl rfl rfl)<|aD ?_
 rcases aN H with ⟨hc1,H⟩ | ⟨hc1,H⟩
 · refine tr e12_5 (dT hc1) rfl<|aB e12_6<|aA e12_7<|vv rfl (bH [I p0.Op,I p0.N,.string p0.Name,.slice aG p0.Index.length aH,.slice bD p0.L.length bE] ag31 cX rfl rfl (aY (st1.has _ _ g1) rfl))<|cH [I 0,I 0,.string ByteArray.empty,.slice none 0 0,.slice none 0 0] [I p0.Op,I p0.N,.string p0.Name,.slice aG p0.Index.length aH,.slice bD p0.L.length bE] [(0,.agg #[I p0.Op,I p0.N,.string p0.Name,.slice aG p0.Index.length aH,.slice bD p0.L.length bE])] u29 cX zr31 rfl rfl rfl rfl (by kernel_rfl) rfl (by kernel_rfl) (fun b2 w2 al2 => ?_)
   have li1 : Lits h1 [[I p0.Op,I p0.N,.string p0.Name,.slice aG p0.Index.length aH,.slice bD p0.L.length bE]] ([p0] : List GNode) := (Lits.cons (GNode.into (h := h1) (x := p0) (SlR.mono le1 cN) (SlR.mono le1 Rp0_L)) Lits.nil)
   have M1 := Mut.new st1 al2
   have lb1 := st1.alB al2
   have sp2 := al2.st st1.has
   have st2 := st1.call0 sp2
   have O1 : Own 31 w0.heap.size _ _ _ _ ([p0] : List GNode) := Lits.own (n := 1) li1 rfl rfl (by decide) M1 lb1
   refine vv rfl (aC (.slice (some ⟨b2,0,none⟩) 1 1) rfl)<|aD ?_
   obtain ⟨h3,le3,st3,R1,kp1⟩ := O1.frz st2 (Nat.le_refl _)
   cases H
   exact aJ e12_8 (cG Try.results12 rfl ⟨some ⟨b2,0,none⟩,1,h3,rfl,st3,R1⟩)
 refine fa e12_5 (dF hc1) rfl<|aM e12_9<|aB e12_10<|aB e12_11<|aA e12_12<|vv rfl (aF (b := b1) (o := 0) fl31_4 rfl)<|vv rfl (aL (.slice bD p0.L.length bE) sc29 rfl ((aQ (st1.has _ _ g1)).trans rfl))<|vv rfl (bN u29 rfl)<|vv rfl (aE (I 0) rfl)<|aD ?_
 refine aT e12_13<|cB e12_14 ?_
 exact ih.2 (j2 := 0) st1 rfl rfl rfl rfl (Own.nil _ _ _ _) (SlR.mono le1 Rp0_L) rfl H
theorem SLl12_0_z : SLl12_0 0 := by
  unfold SLl12_0; intros; rename_i H; exact absurd H (by simp [l12_0])
theorem SLl12_0_s (k : Nat) (ih : ZS12 k) : SLl12_0 (k + 1) := by
 intro p0 bD a1 bE c1 j2 w0 w h0 h σ l1 xs1 r st s2 s11 s12 s13 O2 R2 hd1 H
 cases xs1 with
 | nil =>
  rw [l12_0] at H
  have hk1 := cV hd1
  refine aB e12_15<|aA e12_16<|vv rfl (aP .lss .i64 (j2 : Int) (p0.L.length : Int) (.bool (decide ((j2 : Int) < (p0.L.length : Int)))) 3 3 s13 s12 rfl)<|aD<|aB e12_17<|fa e12_18 hk1 rfl<|bM e12_20 rfl<|aB e12_27<|aA e12_28<|vv rfl (aE (.slice a1 l1.length c1) s2) ?_
  refine vv rfl (aC (.slice a1 l1.length c1) rfl)<|aD ?_
  obtain ⟨h4,le4,st4,R3,kp2⟩ := O2.frz st (Nat.le_refl _)
  cases H
  exact aJ e12_29 (cG Try.results12 rfl ⟨a1,c1,h4,rfl,st4,R3⟩)
 | cons x1 xs2 =>
  rw [l12_0] at H
  obtain ⟨hk2,hj1,hx1,hd2⟩ := cL hd1
  refine aB e12_15<|aA e12_16<|vv rfl (aP .lss .i64 (j2 : Int) (p0.L.length : Int) (.bool (decide ((j2 : Int) < (p0.L.length : Int)))) 3 3 s13 s12 rfl)<|aD<|aB e12_17<|tr e12_18 hk2 rfl<|aM e12_19<|aB e12_21<|aT e12_22<|aB e12_23 ?_
  refine aA e12_24 ?_
  obtain ⟨b3,o1,vs1,ea1,rp1,cl1⟩ := SlR.at R2 hx1
  obtain ⟨a2,c2,a3,c3,rfl,R4,R5⟩ := GNode.out rp1
  refine vv rfl (aX u29 cX s11 s13 ea1 (Int.natCast_nonneg _) (Int.ofNat_lt.2 hj1))<|vv rfl (bH [I x1.Op,I x1.N,.string x1.Name,.slice a2 x1.Index.length c2,.slice a3 x1.L.length c3] ag31 cX rfl rfl (cl1 _ (Has.le (Le.refl _) st.has)))<|cF (.agg #[I 0,I 0,.string ByteArray.empty,.slice none 0 0,.slice none 0 0]) zr31 rfl rfl (fun b4 w3 al3 => ?_)
  replace al3 : Al _ (.cells (List.toArray [I 0,I 0,.string ByteArray.empty,.slice none 0 0,.slice none 0 0]) 31 (0,0)) b4 w3 := al3
  have ne1 := O2.ne_al al3
  have M2 := Mut.new st al3
  have lb2 := st.alB al3
  have sp3 := al3.st st.has
  have O3 := O2.call0 sp3
  have st5 := st.call0 sp3
  refine aV (o := 0) (n := 5) [I x1.Op,I x1.N,.string x1.Name,.slice a2 x1.Index.length c2,.slice a3 x1.L.length c3] [I x1.Op,I x1.N,.string x1.Name,.slice a2 x1.Index.length c2,.slice a3 x1.L.length c3] (.agg #[I x1.Op,I x1.N,.string x1.Name,.slice a2 x1.Index.length c2,.slice a3 x1.L.length c3]) cX rfl rfl rfl rfl M2 rfl rfl rfl rfl rfl (fun w4 wr1 M3 => ?_)
  have sp4 := wr1.st st5.has M2.none
  have O4 := O3.call sp4 (fun x hx e => (absurd (e ▸ hx) ne1))
  have st6 := st5.call sp4 (fun x e => (.inl (e ▸ lb2)))
  obtain ⟨h5,le5,g3,st7,kp3⟩ := M3.fz st6 lb2
  have O5 := O4.fr le5 kp3 ne1
  refine aD<|aA e12_25<|vv rfl (aE (.slice a1 l1.length c1) s2)<|vv rfl (bH [I x1.Op,I x1.N,.string x1.Name,.slice a2 x1.Index.length c2,.slice a3 x1.L.length c3] ag31 cX rfl rfl (aY (st7.has _ _ g3) rfl)) ?_
  obtain ⟨r1,hr1,H⟩ := aK H
  refine aU [.agg #[I x1.Op,I x1.N,.string x1.Name,.slice a2 x1.Index.length c2,.slice a3 x1.L.length c3]] en12 rfl rfl rfl (ih.1 (p0 := x1) st7.has (SlR.mono le5 R4) (SlR.mono le5 R5) hr1) ?_
  rintro _ w5 ⟨a4,c4,h6,rfl,sp5,R6⟩
  have O6 := O5.call0 sp5
  have st8 := st7.call0 sp5
  obtain ⟨hs1,H⟩ := cD H
  refine eG (α := GNode) (B := w0.heap.size) (l := l1) (l2 := r1) u29 u29 ap31 rfl rfl rfl rfl st8.has st8.sp.size O6 R6 rfl rfl hs1 (fun a5 c5 w6 O7 sp6 bl1 => ?_)
  have st9 := st8.call sp6 (fun x e => (.inl (O6.lbs x e)))
  refine vv rfl (aC (.slice a5 ((l1 ++ r1).length) c5) rfl)<|aD<|aW<|aA e12_26<|vv rfl (aP .add .i64 (j2 : Int) 1 (I ((j2 + 1 : Nat) : Int)) 3 3 s13 rfl (dL hj1 (SlR.mono (le5.trans sp5.le) R2).mx))<|vv rfl (aE (I ((j2 + 1 : Nat) : Int)) rfl)<|aD<|bF ?_
  exact ih.2 (j2 := (j2 + 1)) st9 rfl s11 s12 rfl O7 (SlR.mono (le5.trans sp5.le) R2) hd2 H
theorem ZS12_all : ∀ k,ZS12 k
  | 0 => ⟨S12_z,SLl12_0_z⟩
  | k + 1 => ⟨S12_s k (ZS12_all k),SLl12_0_s k (ZS12_all k)⟩
theorem F12 (k : Nat) : S12 k := (ZS12_all k).1
theorem F32 : S32 := by
 intro p0 dM dN p1_b p1_0 w0 h0 hh Rp0_Shape gp1 r H
 unfold m32 at H
 refine aO (fn := Try.f32) Try.func32 rfl (Nat.le_of_ble_eq_true rfl) ?_
 show Run X32 [.code c32_0] (fun t => List.getD [.agg #[.string p0.Name,.slice dM p0.Shape.length dN,.string p0.Form,I p0.Block],.pointer (some ⟨p1_b,0,none⟩)] t undef) w0 (.fn (Q32 w0 h0 r))
 have st0 := St.init hh noM
 refine aB e32_0<|aA e32_1<|eF (.agg #[.string p0.Name,.slice dM p0.Shape.length dN,.string p0.Form,I p0.Block]) rfl rfl rfl (fun b1 w1 al1 => ?_)
 replace al1 : Al _ (.cells (List.toArray [.string p0.Name,.slice dM p0.Shape.length dN,.string p0.Form,I p0.Block]) 45 (0,0)) b1 w1 := al1
 obtain ⟨h1,le1,g1,sp1⟩ := al1.fz st0.has
 have st1 := st0.call0 sp1
 refine vv rfl (aC (.bool false) rfl)<|aD<|aB e32_2<|aA e32_3<|vv rfl (aF (b := b1) (o := 0) fl45_0 rfl)<|vv rfl (aL (.string p0.Name) sc9 rfl ((aQ (st1.has _ _ g1)).trans rfl))<|vv rfl (aL (.string p1_0) sc9 rfl ((aQ (st1.has _ _ (le1 _ _ gp1))).trans rfl))<|vv rfl (x_strEq p0.Name p1_0 9 9 rfl rfl)<|vv rfl (aC (.bool (decide (p0.Name = p1_0))) rfl)<|aD ?_
 cases H
 exact aJ e32_4 (cG Try.results32 rfl ⟨h1,rfl,st1⟩)
abbrev ZSLl31_0 (k : Nat) : Prop := SLl31_0 k
theorem SLl31_0_z : SLl31_0 0 := by
  unfold SLl31_0; intros; rename_i H; exact absurd H (by simp [l31_0])
theorem SLl31_0_s (k : Nat) (ih : ZSLl31_0 k) : SLl31_0 (k + 1) := by
 intro p0 bA bC cU j1 cP w0 w h0 h σ xs1 r st s0 s1 s7 s8 R1 g1 hd1 H
 cases xs1 with
 | nil =>
  rw [l31_0] at H
  have hk1 := cV hd1
  refine aB e31_7<|aA e31_8<|vv rfl (aP .lss .i64 (j1 : Int) (p0.length : Int) (.bool (decide ((j1 : Int) < (p0.length : Int)))) 3 3 s8 s7 rfl)<|aD<|aB e31_9<|fa e31_10 hk1 rfl<|bM e31_12 rfl<|aB e31_25<|aA e31_26<|vv rfl (aC (I (-1)) rfl) ?_
  refine aD ?_
  cases H
  exact aJ e31_27 (cG Try.results31 rfl ⟨h,rfl,st⟩)
 | cons x1 xs2 =>
  rw [l31_0] at H
  obtain ⟨hk2,hj1,hx1,hd2⟩ := cL hd1
  refine aB e31_7<|aA e31_8<|vv rfl (aP .lss .i64 (j1 : Int) (p0.length : Int) (.bool (decide ((j1 : Int) < (p0.length : Int)))) 3 3 s8 s7 rfl)<|aD<|aB e31_9<|tr e31_10 hk2 rfl<|aM e31_11<|aB e31_13<|aT e31_14<|aB e31_15 ?_
  refine aA e31_16<|vv rfl (aE (I (j1 : Int)) s8)<|vv rfl (aC (I (j1 : Int)) rfl)<|aD<|aB e31_17<|aA e31_18<|vv rfl (aE (.func (.func 32) #[] #[.pointer (some ⟨cU,0,none⟩)]) s1)<|vv rfl (aE (.slice bA p0.length bC) s0)<|vv rfl (aE (I (j1 : Int)) rfl) ?_
  obtain ⟨b1,o1,vs1,ea1,rp1,cl1⟩ := SlR.at R1 hx1
  obtain ⟨a1,c1,rfl,R2⟩ := GDecl.out rp1
  refine vv rfl (aX u22 sz45 rfl rfl ea1 (Int.natCast_nonneg _) (Int.ofNat_lt.2 hj1))<|vv rfl (bH [.string x1.Name,.slice a1 x1.Shape.length c1,.string x1.Form,I x1.Block] ag45 sz45 rfl rfl (cl1 _ (Has.le (Le.refl _) st.has))) ?_
  obtain ⟨r1,hr1,H⟩ := aK H
  refine dR [] [.pointer (some ⟨cU,0,none⟩)] [.agg #[.string x1.Name,.slice a1 x1.Shape.length c1,.string x1.Form,I x1.Block]] [.agg #[.string x1.Name,.slice a1 x1.Shape.length c1,.string x1.Form,I x1.Block],.pointer (some ⟨cU,0,none⟩)] en32 rfl rfl rfl rfl rfl (F32 (p0 := x1) st.has R2 g1 hr1) ?_
  rintro _ w1 ⟨h1,rfl,sp1⟩
  have st1 := st.call0 sp1
  refine aD ?_
  rcases aN H with ⟨hc1,H⟩ | ⟨hc1,H⟩
  · refine tr e31_19 hc1 rfl<|aB e31_20<|aA e31_21<|vv rfl (aE (I (j1 : Int)) rfl)<|vv rfl (aC (I (j1 : Int)) rfl)<|aD ?_
    cases H
    exact aJ e31_22 (cG Try.results31 rfl ⟨h1,rfl,st1⟩)
  refine fa e31_19 (cA hc1) rfl<|aM e31_23<|aW<|aA e31_24<|vv rfl (aP .add .i64 (j1 : Int) 1 (I ((j1 + 1 : Nat) : Int)) 3 3 s8 rfl (dL hj1 (SlR.mono sp1.le R1).mx))<|vv rfl (aE (I ((j1 + 1 : Nat) : Int)) rfl)<|aD<|bF ?_
  exact ih (j1 := (j1 + 1)) st1 s0 s1 s7 rfl (SlR.mono sp1.le R1) (sp1.le _ _ g1) hd2 H
theorem ZSLl31_0_all : ∀ k,ZSLl31_0 k
  | 0 => SLl31_0_z
  | k + 1 => SLl31_0_s k (ZSLl31_0_all k)
theorem Fl31_0 (k : Nat) : SLl31_0 k := (ZSLl31_0_all k)
theorem F31 (k : Nat) : S31 k := by
 intro p0 bA bC cU cP w0 h0 hh Rp0 gp1_v0 r H
 unfold m31 at H
 refine aO (fn := Try.f31) Try.func31 rfl (Nat.le_of_ble_eq_true rfl) ?_
 show Run X31 [.code c31_0] (fun t => List.getD [.slice bA p0.length bC,.func (.func 32) #[] #[.pointer (some ⟨cU,0,none⟩)]] t undef) w0 (.fn (Q31 w0 h0 r))
 have st0 := St.init hh noM
 refine aB e31_0<|aA e31_1<|vv rfl (aC (I 0) rfl)<|aD<|aB e31_2<|aB e31_3<|aA e31_4<|vv rfl (aE (.slice bA p0.length bC) rfl)<|vv rfl (bN u22 rfl)<|vv rfl (aE (I 0) rfl) ?_
 refine aD<|aT e31_5<|cB e31_6 ?_
 exact Fl31_0 k (j1 := 0) st0 rfl rfl rfl rfl Rp0 gp1_v0 rfl H
theorem F13 (k : Nat) : S13 k := by
 intro p0 p1 cY cZ w0 h0 hh Rp1 r H
 unfold m13 at H
 refine aO (fn := Try.f13) Try.func13 rfl (Nat.le_of_ble_eq_true rfl) ?_
 show Run X13 [.code c13_0] (fun t => List.getD [.string p0,.slice cY p1.length cZ] t undef) w0 (.fn (Q13 w0 h0 r))
 have st0 := St.init hh noM
 refine aB e13_0<|aA e13_1<|eF (.string p0) rfl rfl rfl (fun b1 w1 al1 => ?_)
 replace al1 : Al _ (.cells (List.toArray [.string p0]) 9 (0,0)) b1 w1 := al1
 obtain ⟨h1,le1,g1,sp1⟩ := al1.fz st0.has
 have st1 := st0.call0 sp1
 refine cF (.agg #[.string ByteArray.empty,.slice none 0 0,.string ByteArray.empty,I 0]) zr45 rfl rfl (fun b2 w2 al2 => ?_)
 replace al2 : Al _ (.cells (List.toArray [.string ByteArray.empty,.slice none 0 0,.string ByteArray.empty,I 0]) 45 (0,0)) b2 w2 := al2
 have M1 := Mut.new st1 al2
 have lb1 := st1.alB al2
 have sp2 := al2.st st1.has
 have st2 := st1.call0 sp2
 refine vv rfl (aC (.bool false) rfl)<|aD<|aB e13_2<|aA e13_3<|vv rfl (aE (.slice cY p1.length cZ) rfl)<|vv rfl (eT (.func (.func 32) #[] #[.pointer (some ⟨b1,0,none⟩)]) (mf rfl rfl)) ?_
 obtain ⟨r1,hr1,H⟩ := aK H
 refine aU [.slice cY p1.length cZ,.func (.func 32) #[] #[.pointer (some ⟨b1,0,none⟩)]] en31 rfl rfl rfl (F31 k st2.has (SlR.mono le1 Rp1) g1 hr1) ?_
 rintro _ w3 ⟨h2,rfl,sp3⟩
 have M2 := M1.call0 sp3
 have st3 := st2.call0 sp3
 refine vv rfl (aC (I r1) rfl)<|aD<|aB e13_4<|aB e13_5<|aA e13_6<|vv rfl (aE (I r1) rfl)<|vv rfl (aP .lss .i64 r1 0 (.bool (decide (r1 < 0))) 3 3 rfl rfl rfl)<|aD ?_
 rcases aN H with ⟨hc1,H⟩ | ⟨hc1,H⟩
 · refine tr e13_7 (dT hc1) rfl<|aB e13_8<|aA e13_9<|vv rfl (dK (vs := [.string ByteArray.empty,.slice none 0 0,.string ByteArray.empty,I 0]) [] bd45 rfl rfl)<|aV (o := 0) (n := 4) [.string ByteArray.empty,.slice none 0 0,.string ByteArray.empty,I 0] [.string ByteArray.empty,.slice none 0 0,.string ByteArray.empty,I 0] (.agg #[.string ByteArray.empty,.slice none 0 0,.string ByteArray.empty,I 0]) sz45 rfl rfl rfl rfl M2 rfl rfl rfl rfl rfl (fun w4 wr1 M3 => ?_)
   have sp4 := wr1.st st3.has M2.none
   have st4 := st3.call sp4 (fun x e => (.inl (e ▸ lb1)))
   refine vv rfl (aC (.bool false) rfl)<|aD ?_
   cases H
   exact aJ e13_10 (eK Try.results13 (eI [.string ByteArray.empty,.slice none 0 0,.string ByteArray.empty,I 0] ag45 sz45 rfl rfl (aY M3.get rfl)) rfl ⟨none,0,h2,rfl,st4,(SlR.none _)⟩)
 refine fa e13_7 (dF hc1) rfl<|aM e13_11<|aB e13_12<|aA e13_13<|vv rfl (aE (.slice cY p1.length cZ) rfl)<|vv rfl (aE (I r1) rfl) ?_
 obtain ⟨x1,hx1,H⟩ := aK H
 have hi1 := dB hx1
 obtain ⟨b3,o1,vs1,ea1,rp1,cl1⟩ := SlR.at (SlR.mono (le1.trans sp3.le) Rp1) hi1.2.2
 obtain ⟨a1,c1,rfl,R1⟩ := GDecl.out rp1
 refine vv rfl (aX u22 sz45 rfl rfl ea1 hi1.1 hi1.2.1)<|vv rfl (bH [.string x1.Name,.slice a1 x1.Shape.length c1,.string x1.Form,I x1.Block] ag45 sz45 rfl rfl (cl1 _ (Has.le (Le.refl _) st3.has)))<|aV (o := 0) (n := 4) [.string x1.Name,.slice a1 x1.Shape.length c1,.string x1.Form,I x1.Block] [.string x1.Name,.slice a1 x1.Shape.length c1,.string x1.Form,I x1.Block] (.agg #[.string x1.Name,.slice a1 x1.Shape.length c1,.string x1.Form,I x1.Block]) sz45 rfl rfl rfl rfl M2 rfl rfl rfl rfl rfl (fun w5 wr2 M4 => ?_)
 have sp5 := wr2.st st3.has M2.none
 have st5 := st3.call sp5 (fun x e => (.inl (e ▸ lb1)))
 refine vv rfl (aC (.bool true) rfl)<|aD ?_
 cases H
 exact aJ e13_14 (eK Try.results13 (eI [.string x1.Name,.slice a1 x1.Shape.length c1,.string x1.Form,I x1.Block] ag45 sz45 rfl rfl (aY M4.get rfl)) rfl ⟨a1,c1,h2,rfl,st5,R1⟩)
theorem F86 : S86 := by
 intro p0 p1 w0 h0 hh r H
 unfold m86 at H
 refine aO (fn := Try.f86) Try.func86 rfl (Nat.le_of_ble_eq_true rfl) ?_
 show Run X86 [.code c86_0] (fun t => List.getD [.string p0,.int .u8 p1] t undef) w0 (.fn (Q86 w0 h0 r))
 have st0 := St.init hh noM
 refine aB e86_0<|aA e86_1<|vv rfl (aC (I 0) rfl)<|aD<|aB e86_2<|aA e86_3<|vv rfl (aE (.string p0) rfl)<|vv rfl (aE (.int .u8 p1) rfl)<|vv rfl (x_ib xb95 rfl)<|vv rfl (aC (I (ib p0 p1)) rfl) ?_
 refine aD ?_
 cases H
 exact aJ e86_4 (cG Try.results86 rfl ⟨h0,rfl,st0⟩)
theorem F63 : S63 := by
 intro p0 p1 w0 h0 hh r H
 unfold m63 at H
 refine aO (fn := Try.f63) Try.func63 rfl (Nat.le_of_ble_eq_true rfl) ?_
 show Run X63 [.code c63_0] (fun t => List.getD [.string p0,.int .u8 p1] t undef) w0 (.fn (Q63 w0 h0 r))
 have st0 := St.init hh noM
 refine aB e63_0<|aA e63_1<|vv rfl (aC (I 0) rfl)<|aD<|aB e63_2<|aA e63_3<|vv rfl (aE (.string p0) rfl)<|vv rfl (aE (.int .u8 p1) rfl) ?_
 obtain ⟨r1,hr1,H⟩ := aK H
 refine aU [.string p0,.int .u8 p1] en86 rfl rfl rfl (F86 st0.has hr1) ?_
 rintro _ w1 ⟨h1,rfl,sp1⟩
 have st1 := st0.call0 sp1
 refine vv rfl (aC (I r1) rfl)<|aD ?_
 cases H
 exact aJ e63_4 (cG Try.results63 rfl ⟨h1,rfl,st1⟩)
theorem F62 : S62 := by
 intro p0 w0 h0 hh r H
 unfold m62 at H
 refine aO (fn := Try.f62) Try.func62 rfl (Nat.le_of_ble_eq_true rfl) ?_
 show Run X62 [.code c62_0] (fun t => List.getD [.int .u8 p0] t undef) w0 (.fn (Q62 w0 h0 r))
 have st0 := St.init hh noM
 refine aB e62_0<|aA e62_1<|vv rfl (aC (I 0) rfl)<|aD<|aB e62_2<|aT e62_3<|aB e62_4<|aA e62_5 ?_
 obtain ⟨j1,hj1,H⟩ := dE H
 have Jj1 : ∀  {σ3 : Env} {w7 : World} {h7 : Sto},Le h0 h7 → St w0 noM h0 h7 w7 → j1 () = some r → Run X62 [.inBlock 0,.code c62_41] σ3 w7 (.fn (Q62 w0 h0 r)) := by
  intro σ3 w7 h7 le3 st7 H
  rw [hj1] at H
  refine aW<|aB e62_41<|aA e62_42<|vv rfl (aC (I 0) rfl)<|aD ?_
  cases H
  exact aJ e62_43 (cG Try.results62 rfl ⟨h7,rfl,st7⟩)
 refine vv rfl (aE (.int .u8 p0) rfl)<|vv rfl (aP .or .u8 p0 32 (.int .u8 (or8 p0 32)) 5 5 rfl rfl rfl)<|vv rfl (aP .geq .u8 (or8 p0 32) 97 (.bool (decide (97 ≤ (or8 p0 32)))) 5 5 rfl rfl rfl)<|vv rfl (aE (.bool (decide (97 ≤ (or8 p0 32)))) rfl) ?_
 rcases aN H with ⟨hc1,H⟩ | ⟨hc1,H⟩
 · refine aZ (wt2 (dT hc1) rfl) rfl (aE (.int .u8 p0) rfl)<|aZ (wt2 (dT hc1) rfl) rfl (aP .or .u8 p0 32 (.int .u8 (or8 p0 32)) 5 5 rfl rfl rfl)<|aZ (wt2 (dT hc1) rfl) rfl (aP .leq .u8 (or8 p0 32) 122 (.bool (decide ((or8 p0 32) ≤ 122))) 5 5 rfl rfl rfl)<|vv rfl (dH (.bool (decide ((or8 p0 32) ≤ 122))) (dT hc1) rfl rfl)<|vv rfl (aC (.bool (decide ((or8 p0 32) ≤ 122))) rfl)<|aD ?_
   rcases aN H with ⟨hc2,H⟩ | ⟨hc2,H⟩
   · refine tr e62_6 (dT hc2) rfl<|aB e62_7<|aA e62_8<|vv rfl (aC (I 1) rfl)<|aD ?_
     cases H
     exact aJ e62_9 (cG Try.results62 rfl ⟨h0,rfl,st0⟩)
   refine fa e62_6 (dF hc2) rfl<|aB e62_10<|aA e62_11 ?_
   obtain ⟨j2,hj2,H⟩ := dE H
   have Jj2 : ∀  {σ1 : Env} {w3 : World} {h3 : Sto},Le h0 h3 → St w0 noM h0 h3 w3 → j2 () = some r → Run X62 [.inBlock 0,.code c62_41] σ1 w3 (.fn (Q62 w0 h0 r)) := by
    intro σ1 w3 h3 le1 st3 H
    rw [hj2] at H
    exact Jj1 le1 st3 H
   refine vv rfl (aE (.int .u8 p0) rfl)<|vv rfl (aP .geq .u8 p0 48 (.bool (decide (48 ≤ p0))) 5 5 rfl rfl rfl)<|vv rfl (aE (.bool (decide (48 ≤ p0))) rfl) ?_
   rcases aN H with ⟨hc3,H⟩ | ⟨hc3,H⟩
   · refine aZ (wt2 (dT hc3) rfl) rfl (aE (.int .u8 p0) rfl)<|aZ (wt2 (dT hc3) rfl) rfl (aP .leq .u8 p0 57 (.bool (decide (p0 ≤ 57))) 5 5 rfl rfl rfl)<|vv rfl (dH (.bool (decide (p0 ≤ 57))) (dT hc3) rfl rfl)<|vv rfl (aC (.bool (decide (p0 ≤ 57))) rfl)<|aD ?_
     rcases aN H with ⟨hc4,H⟩ | ⟨hc4,H⟩
     · refine tr e62_12 (dT hc4) rfl<|aB e62_13<|aA e62_14<|vv rfl (aC (I 2) rfl)<|aD ?_
       cases H
       exact aJ e62_15 (cG Try.results62 rfl ⟨h0,rfl,st0⟩)
     refine fa e62_12 (dF hc4) rfl<|aB e62_16<|aA e62_17<|vv rfl (aE (.int .u8 p0) rfl) ?_
     obtain ⟨r1,hr1,H⟩ := aK H
     refine aU [.string (⟨#[43,45,42,40,41,91,93,44,61,58]⟩ : ByteArray),.int .u8 p0] en63 rfl rfl rfl (F63 st0.has hr1) ?_
     rintro _ w1 ⟨h1,rfl,sp1⟩
     have st1 := st0.call0 sp1
     refine vv rfl (aP .geq .i64 r1 0 (.bool (decide (0 ≤ r1))) 3 3 rfl rfl rfl)<|vv rfl (aC (.bool (decide (0 ≤ r1))) rfl)<|aD ?_
     rcases aN H with ⟨hc5,H⟩ | ⟨hc5,H⟩
     · refine tr e62_18 (dT hc5) rfl<|aB e62_19<|aA e62_20<|vv rfl (aC (I 3) rfl)<|aD ?_
       cases H
       exact aJ e62_21 (cG Try.results62 rfl ⟨h1,rfl,st1⟩)
     refine fa e62_18 (dF hc5) rfl<|aB e62_22<|aA e62_23<|vv rfl (aE (.int .u8 p0) rfl)<|vv rfl (aP .eql .u8 p0 32 (.bool (decide (p0 = 32))) 5 5 rfl rfl rfl)<|vv rfl (aE (.bool (decide (p0 = 32))) rfl) ?_
     rcases aN H with ⟨hc6,H⟩ | ⟨hc6,H⟩
     · refine aR (wf2 (dT hc6) rfl) rfl<|aR (wf2 (dT hc6) rfl) rfl<|vv rfl (dH (.bool true) (dT hc6) rfl rfl)<|vv rfl (aC (.bool true) rfl)<|aD<|cQ e62_24 (p := true) rfl rfl<|aB e62_25<|aA e62_26<|vv rfl (aC (I 4) rfl)<|aD ?_
       cases H
       exact aJ e62_27 (cG Try.results62 rfl ⟨h1,rfl,st1⟩)
     refine aZ (wt2 (dF hc6) rfl) rfl (aE (.int .u8 p0) rfl)<|aZ (wt2 (dF hc6) rfl) rfl (aP .eql .u8 p0 9 (.bool (decide (p0 = 9))) 5 5 rfl rfl rfl)<|vv rfl (dI (.bool (decide (p0 = 9))) (dF hc6) rfl rfl)<|vv rfl (aC (.bool (decide (p0 = 9))) rfl)<|aD ?_
     rcases aN H with ⟨hc7,H⟩ | ⟨hc7,H⟩
     · refine tr e62_24 (dT hc7) rfl<|aB e62_25<|aA e62_26<|vv rfl (aC (I 4) rfl)<|aD ?_
       cases H
       exact aJ e62_27 (cG Try.results62 rfl ⟨h1,rfl,st1⟩)
     refine fa e62_24 (dF hc7) rfl<|aB e62_28<|aA e62_29<|vv rfl (aE (.int .u8 p0) rfl)<|vv rfl (aP .eql .u8 p0 10 (.bool (decide (p0 = 10))) 5 5 rfl rfl rfl)<|vv rfl (aC (.bool (decide (p0 = 10))) rfl)<|aD ?_
     rcases aN H with ⟨hc8,H⟩ | ⟨hc8,H⟩
     · refine tr e62_30 (dT hc8) rfl<|aB e62_31<|aA e62_32<|vv rfl (aC (I 5) rfl)<|aD ?_
       cases H
       exact aJ e62_33 (cG Try.results62 rfl ⟨h1,rfl,st1⟩)
     refine fa e62_30 (dF hc8) rfl<|aB e62_34<|aA e62_35<|vv rfl (aE (.int .u8 p0) rfl)<|vv rfl (aP .eql .u8 p0 35 (.bool (decide (p0 = 35))) 5 5 rfl rfl rfl)<|vv rfl (aC (.bool (decide (p0 = 35))) rfl)<|aD ?_
     rcases aN H with ⟨hc9,H⟩ | ⟨hc9,H⟩
     · refine tr e62_36 (dT hc9) rfl<|aB e62_37<|aA e62_38<|vv rfl (aC (I 6) rfl)<|aD ?_
       cases H
       exact aJ e62_39 (cG Try.results62 rfl ⟨h1,rfl,st1⟩)
     refine fa e62_36 (dF hc9) rfl<|aM e62_40 ?_
     exact Jj2 sp1.le st1 H
   refine aR (wf2 (dF hc3) rfl) rfl<|aR (wf2 (dF hc3) rfl) rfl<|vv rfl (dI (.bool false) (dF hc3) rfl rfl)<|vv rfl (aC (.bool false) rfl)<|aD<|dJ e62_12 (p := false) rfl rfl<|aB e62_16<|aA e62_17<|vv rfl (aE (.int .u8 p0) rfl) ?_
   obtain ⟨r2,hr2,H⟩ := aK H
   refine aU [.string (⟨#[43,45,42,40,41,91,93,44,61,58]⟩ : ByteArray),.int .u8 p0] en63 rfl rfl rfl (F63 st0.has hr2) ?_
   rintro _ w2 ⟨h2,rfl,sp2⟩
   have st2 := st0.call0 sp2
   refine vv rfl (aP .geq .i64 r2 0 (.bool (decide (0 ≤ r2))) 3 3 rfl rfl rfl)<|vv rfl (aC (.bool (decide (0 ≤ r2))) rfl)<|aD ?_
   rcases aN H with ⟨hc10,H⟩ | ⟨hc10,H⟩
   · refine tr e62_18 (dT hc10) rfl<|aB e62_19<|aA e62_20<|vv rfl (aC (I 3) rfl)<|aD ?_
     cases H
     exact aJ e62_21 (cG Try.results62 rfl ⟨h2,rfl,st2⟩)
   refine fa e62_18 (dF hc10) rfl<|aB e62_22<|aA e62_23<|vv rfl (aE (.int .u8 p0) rfl)<|vv rfl (aP .eql .u8 p0 32 (.bool (decide (p0 = 32))) 5 5 rfl rfl rfl)<|vv rfl (aE (.bool (decide (p0 = 32))) rfl) ?_
   rcases aN H with ⟨hc11,H⟩ | ⟨hc11,H⟩
   · refine aR (wf2 (dT hc11) rfl) rfl<|aR (wf2 (dT hc11) rfl) rfl<|vv rfl (dH (.bool true) (dT hc11) rfl rfl)<|vv rfl (aC (.bool true) rfl)<|aD<|cQ e62_24 (p := true) rfl rfl<|aB e62_25<|aA e62_26<|vv rfl (aC (I 4) rfl)<|aD ?_
     cases H
     exact aJ e62_27 (cG Try.results62 rfl ⟨h2,rfl,st2⟩)
   refine aZ (wt2 (dF hc11) rfl) rfl (aE (.int .u8 p0) rfl)<|aZ (wt2 (dF hc11) rfl) rfl (aP .eql .u8 p0 9 (.bool (decide (p0 = 9))) 5 5 rfl rfl rfl)<|vv rfl (dI (.bool (decide (p0 = 9))) (dF hc11) rfl rfl)<|vv rfl (aC (.bool (decide (p0 = 9))) rfl)<|aD ?_
   rcases aN H with ⟨hc12,H⟩ | ⟨hc12,H⟩
   · refine tr e62_24 (dT hc12) rfl<|aB e62_25<|aA e62_26<|vv rfl (aC (I 4) rfl)<|aD ?_
     cases H
     exact aJ e62_27 (cG Try.results62 rfl ⟨h2,rfl,st2⟩)
   refine fa e62_24 (dF hc12) rfl<|aB e62_28<|aA e62_29<|vv rfl (aE (.int .u8 p0) rfl)<|vv rfl (aP .eql .u8 p0 10 (.bool (decide (p0 = 10))) 5 5 rfl rfl rfl)<|vv rfl (aC (.bool (decide (p0 = 10))) rfl)<|aD ?_
   rcases aN H with ⟨hc13,H⟩ | ⟨hc13,H⟩
   · refine tr e62_30 (dT hc13) rfl<|aB e62_31<|aA e62_32<|vv rfl (aC (I 5) rfl)<|aD ?_
     cases H
     exact aJ e62_33 (cG Try.results62 rfl ⟨h2,rfl,st2⟩)
   refine fa e62_30 (dF hc13) rfl<|aB e62_34<|aA e62_35<|vv rfl (aE (.int .u8 p0) rfl)<|vv rfl (aP .eql .u8 p0 35 (.bool (decide (p0 = 35))) 5 5 rfl rfl rfl)<|vv rfl (aC (.bool (decide (p0 = 35))) rfl)<|aD ?_
   rcases aN H with ⟨hc14,H⟩ | ⟨hc14,H⟩
   · refine tr e62_36 (dT hc14) rfl<|aB e62_37<|aA e62_38<|vv rfl (aC (I 6) rfl)<|aD ?_
     cases H
     exact aJ e62_39 (cG Try.results62 rfl ⟨h2,rfl,st2⟩)
   refine fa e62_36 (dF hc14) rfl<|aM e62_40 ?_
   exact Jj2 sp2.le st2 H
 refine aR (wf2 (dF hc1) rfl) rfl<|aR (wf2 (dF hc1) rfl) rfl<|aR (wf2 (dF hc1) rfl) rfl<|vv rfl (dI (.bool false) (dF hc1) rfl rfl)<|vv rfl (aC (.bool false) rfl)<|aD<|dJ e62_6 (p := false) rfl rfl<|aB e62_10<|aA e62_11 ?_
 obtain ⟨j5,hj5,H⟩ := dE H
 have Jj5 : ∀  {σ2 : Env} {w6 : World} {h6 : Sto},Le h0 h6 → St w0 noM h0 h6 w6 → j5 () = some r → Run X62 [.inBlock 0,.code c62_41] σ2 w6 (.fn (Q62 w0 h0 r)) := by
  intro σ2 w6 h6 le2 st6 H
  rw [hj5] at H
  exact Jj1 le2 st6 H
 refine vv rfl (aE (.int .u8 p0) rfl)<|vv rfl (aP .geq .u8 p0 48 (.bool (decide (48 ≤ p0))) 5 5 rfl rfl rfl)<|vv rfl (aE (.bool (decide (48 ≤ p0))) rfl) ?_
 rcases aN H with ⟨hc15,H⟩ | ⟨hc15,H⟩
 · refine aZ (wt2 (dT hc15) rfl) rfl (aE (.int .u8 p0) rfl)<|aZ (wt2 (dT hc15) rfl) rfl (aP .leq .u8 p0 57 (.bool (decide (p0 ≤ 57))) 5 5 rfl rfl rfl)<|vv rfl (dH (.bool (decide (p0 ≤ 57))) (dT hc15) rfl rfl)<|vv rfl (aC (.bool (decide (p0 ≤ 57))) rfl)<|aD ?_
   rcases aN H with ⟨hc16,H⟩ | ⟨hc16,H⟩
   · refine tr e62_12 (dT hc16) rfl<|aB e62_13<|aA e62_14<|vv rfl (aC (I 2) rfl)<|aD ?_
     cases H
     exact aJ e62_15 (cG Try.results62 rfl ⟨h0,rfl,st0⟩)
   refine fa e62_12 (dF hc16) rfl<|aB e62_16<|aA e62_17<|vv rfl (aE (.int .u8 p0) rfl) ?_
   obtain ⟨r3,hr3,H⟩ := aK H
   refine aU [.string (⟨#[43,45,42,40,41,91,93,44,61,58]⟩ : ByteArray),.int .u8 p0] en63 rfl rfl rfl (F63 st0.has hr3) ?_
   rintro _ w4 ⟨h4,rfl,sp3⟩
   have st4 := st0.call0 sp3
   refine vv rfl (aP .geq .i64 r3 0 (.bool (decide (0 ≤ r3))) 3 3 rfl rfl rfl)<|vv rfl (aC (.bool (decide (0 ≤ r3))) rfl)<|aD ?_
   rcases aN H with ⟨hc17,H⟩ | ⟨hc17,H⟩
   · refine tr e62_18 (dT hc17) rfl<|aB e62_19<|aA e62_20<|vv rfl (aC (I 3) rfl)<|aD ?_
     cases H
     exact aJ e62_21 (cG Try.results62 rfl ⟨h4,rfl,st4⟩)
   refine fa e62_18 (dF hc17) rfl<|aB e62_22<|aA e62_23<|vv rfl (aE (.int .u8 p0) rfl)<|vv rfl (aP .eql .u8 p0 32 (.bool (decide (p0 = 32))) 5 5 rfl rfl rfl)<|vv rfl (aE (.bool (decide (p0 = 32))) rfl) ?_
   rcases aN H with ⟨hc18,H⟩ | ⟨hc18,H⟩
   · refine aR (wf2 (dT hc18) rfl) rfl<|aR (wf2 (dT hc18) rfl) rfl<|vv rfl (dH (.bool true) (dT hc18) rfl rfl)<|vv rfl (aC (.bool true) rfl)<|aD<|cQ e62_24 (p := true) rfl rfl<|aB e62_25<|aA e62_26<|vv rfl (aC (I 4) rfl)<|aD ?_
     cases H
     exact aJ e62_27 (cG Try.results62 rfl ⟨h4,rfl,st4⟩)
   refine aZ (wt2 (dF hc18) rfl) rfl (aE (.int .u8 p0) rfl)<|aZ (wt2 (dF hc18) rfl) rfl (aP .eql .u8 p0 9 (.bool (decide (p0 = 9))) 5 5 rfl rfl rfl)<|vv rfl (dI (.bool (decide (p0 = 9))) (dF hc18) rfl rfl)<|vv rfl (aC (.bool (decide (p0 = 9))) rfl)<|aD ?_
   rcases aN H with ⟨hc19,H⟩ | ⟨hc19,H⟩
   · refine tr e62_24 (dT hc19) rfl<|aB e62_25<|aA e62_26<|vv rfl (aC (I 4) rfl)<|aD ?_
     cases H
     exact aJ e62_27 (cG Try.results62 rfl ⟨h4,rfl,st4⟩)
   refine fa e62_24 (dF hc19) rfl<|aB e62_28<|aA e62_29<|vv rfl (aE (.int .u8 p0) rfl)<|vv rfl (aP .eql .u8 p0 10 (.bool (decide (p0 = 10))) 5 5 rfl rfl rfl)<|vv rfl (aC (.bool (decide (p0 = 10))) rfl)<|aD ?_
   rcases aN H with ⟨hc20,H⟩ | ⟨hc20,H⟩
   · refine tr e62_30 (dT hc20) rfl<|aB e62_31<|aA e62_32<|vv rfl (aC (I 5) rfl)<|aD ?_
     cases H
     exact aJ e62_33 (cG Try.results62 rfl ⟨h4,rfl,st4⟩)
   refine fa e62_30 (dF hc20) rfl<|aB e62_34<|aA e62_35<|vv rfl (aE (.int .u8 p0) rfl)<|vv rfl (aP .eql .u8 p0 35 (.bool (decide (p0 = 35))) 5 5 rfl rfl rfl)<|vv rfl (aC (.bool (decide (p0 = 35))) rfl)<|aD ?_
   rcases aN H with ⟨hc21,H⟩ | ⟨hc21,H⟩
   · refine tr e62_36 (dT hc21) rfl<|aB e62_37<|aA e62_38<|vv rfl (aC (I 6) rfl)<|aD ?_
     cases H
     exact aJ e62_39 (cG Try.results62 rfl ⟨h4,rfl,st4⟩)
   refine fa e62_36 (dF hc21) rfl<|aM e62_40 ?_
   exact Jj5 sp3.le st4 H
 refine aR (wf2 (dF hc15) rfl) rfl<|aR (wf2 (dF hc15) rfl) rfl<|vv rfl (dI (.bool false) (dF hc15) rfl rfl)<|vv rfl (aC (.bool false) rfl)<|aD<|dJ e62_12 (p := false) rfl rfl<|aB e62_16<|aA e62_17<|vv rfl (aE (.int .u8 p0) rfl) ?_
 obtain ⟨r4,hr4,H⟩ := aK H
 refine aU [.string (⟨#[43,45,42,40,41,91,93,44,61,58]⟩ : ByteArray),.int .u8 p0] en63 rfl rfl rfl (F63 st0.has hr4) ?_
 rintro _ w5 ⟨h5,rfl,sp4⟩
 have st5 := st0.call0 sp4
 refine vv rfl (aP .geq .i64 r4 0 (.bool (decide (0 ≤ r4))) 3 3 rfl rfl rfl)<|vv rfl (aC (.bool (decide (0 ≤ r4))) rfl)<|aD ?_
 rcases aN H with ⟨hc22,H⟩ | ⟨hc22,H⟩
 · refine tr e62_18 (dT hc22) rfl<|aB e62_19<|aA e62_20<|vv rfl (aC (I 3) rfl)<|aD ?_
   cases H
   exact aJ e62_21 (cG Try.results62 rfl ⟨h5,rfl,st5⟩)
 refine fa e62_18 (dF hc22) rfl<|aB e62_22<|aA e62_23<|vv rfl (aE (.int .u8 p0) rfl)<|vv rfl (aP .eql .u8 p0 32 (.bool (decide (p0 = 32))) 5 5 rfl rfl rfl)<|vv rfl (aE (.bool (decide (p0 = 32))) rfl) ?_
 rcases aN H with ⟨hc23,H⟩ | ⟨hc23,H⟩
 · refine aR (wf2 (dT hc23) rfl) rfl<|aR (wf2 (dT hc23) rfl) rfl<|vv rfl (dH (.bool true) (dT hc23) rfl rfl)<|vv rfl (aC (.bool true) rfl)<|aD<|cQ e62_24 (p := true) rfl rfl<|aB e62_25<|aA e62_26<|vv rfl (aC (I 4) rfl)<|aD ?_
   cases H
   exact aJ e62_27 (cG Try.results62 rfl ⟨h5,rfl,st5⟩)
 refine aZ (wt2 (dF hc23) rfl) rfl (aE (.int .u8 p0) rfl)<|aZ (wt2 (dF hc23) rfl) rfl (aP .eql .u8 p0 9 (.bool (decide (p0 = 9))) 5 5 rfl rfl rfl)<|vv rfl (dI (.bool (decide (p0 = 9))) (dF hc23) rfl rfl)<|vv rfl (aC (.bool (decide (p0 = 9))) rfl)<|aD ?_
 rcases aN H with ⟨hc24,H⟩ | ⟨hc24,H⟩
 · refine tr e62_24 (dT hc24) rfl<|aB e62_25<|aA e62_26<|vv rfl (aC (I 4) rfl)<|aD ?_
   cases H
   exact aJ e62_27 (cG Try.results62 rfl ⟨h5,rfl,st5⟩)
 refine fa e62_24 (dF hc24) rfl<|aB e62_28<|aA e62_29<|vv rfl (aE (.int .u8 p0) rfl)<|vv rfl (aP .eql .u8 p0 10 (.bool (decide (p0 = 10))) 5 5 rfl rfl rfl)<|vv rfl (aC (.bool (decide (p0 = 10))) rfl)<|aD ?_
 rcases aN H with ⟨hc25,H⟩ | ⟨hc25,H⟩
 · refine tr e62_30 (dT hc25) rfl<|aB e62_31<|aA e62_32<|vv rfl (aC (I 5) rfl)<|aD ?_
   cases H
   exact aJ e62_33 (cG Try.results62 rfl ⟨h5,rfl,st5⟩)
 refine fa e62_30 (dF hc25) rfl<|aB e62_34<|aA e62_35<|vv rfl (aE (.int .u8 p0) rfl)<|vv rfl (aP .eql .u8 p0 35 (.bool (decide (p0 = 35))) 5 5 rfl rfl rfl)<|vv rfl (aC (.bool (decide (p0 = 35))) rfl)<|aD ?_
 rcases aN H with ⟨hc26,H⟩ | ⟨hc26,H⟩
 · refine tr e62_36 (dT hc26) rfl<|aB e62_37<|aA e62_38<|vv rfl (aC (I 6) rfl)<|aD ?_
   cases H
   exact aJ e62_39 (cG Try.results62 rfl ⟨h5,rfl,st5⟩)
 refine fa e62_36 (dF hc26) rfl<|aM e62_40 ?_
 exact Jj5 sp4.le st5 H
abbrev ZSLl64_0 (k : Nat) : Prop := SLl64_0 k
theorem SLl64_0_z : SLl64_0 0 := by
  unfold SLl64_0; intros; rename_i H; exact absurd H (by simp [l64_0])
theorem SLl64_0_s (k : Nat) (ih : ZSLl64_0 k) : SLl64_0 (k + 1) := by
 intro p0 w0 w h0 h σ i1 r st s0 s3 H
 rw [l64_0] at H
 refine aB e64_7<|aB e64_8<|aA e64_9 ?_
 obtain ⟨j1,hj1,H⟩ := dE H
 have Jj1 : ∀  {σ1 : Env} {w3 : World} {h3 : Sto},Le h h3 → St w0 noM h0 h3 w3 → σ1 0 = .string p0 → σ1 3 = I i1 → j1 () = some r → Run X64 [.code c64_13,.inLoop c64_7,.inBlock 0,.code c64_15] σ1 w3 (.fn (Q64 w0 h0 r)) := by
  intro σ1 w3 h3 le1 st3 s0_j1 s3_j1 H
  rw [hj1] at H
  refine aT e64_13<|aA e64_14<|vv rfl (aE (I i1) s3_j1)<|vv rfl (aP .add .i64 i1 1 (I (wr (i1 + 1))) 3 3 rfl rfl rfl)<|vv rfl (aC (I (wr (i1 + 1))) rfl)<|aD<|aW<|bF ?_
  exact ih st3 s0_j1 rfl H
 refine vv rfl (aE (I i1) s3)<|vv rfl (aE (.string p0) s0)<|vv rfl (eB u9 rfl)<|vv rfl (aP .lss .i64 i1 (p0.size : Int) (.bool (decide (i1 < (p0.size : Int)))) 3 3 rfl rfl rfl)<|vv rfl (aE (.bool (decide (i1 < (p0.size : Int)))) rfl) ?_
 rcases aN H with ⟨hc1,H⟩ | ⟨hc1,H⟩
 · refine aZ (wt2 (dT hc1) rfl) rfl (aE (.string p0) s0)<|aZ (wt2 (dT hc1) rfl) rfl (aE (I i1) s3) ?_
   obtain ⟨hi1,H⟩ := cD H
   refine aZ (wt2 (dT hc1) rfl) rfl (fR u9 rfl rfl hi1.1 hi1.2) ?_
   obtain ⟨r1,hr1,H⟩ := aK H
   refine aU [.int .u8 (bt p0 i1)] en62 (wt2 (dT hc1) rfl) rfl rfl (F62 st.has hr1) ?_
   rintro _ w1 ⟨h1,rfl,sp1⟩
   have st1 := st.call0 sp1
   refine aZ (wt2 (dT hc1) rfl) rfl (aP .eql .i64 r1 1 (.bool (decide (r1 = 1))) 3 3 rfl rfl rfl)<|aZ (wt2 (dT hc1) rfl) rfl (aE (.bool (decide (r1 = 1))) rfl) ?_
   rcases aN H with ⟨hc2,H⟩ | ⟨hc2,H⟩
   · refine aR (wf2 (dT hc2) rfl) rfl<|aR (wf2 (dT hc2) rfl) rfl<|aR (wf2 (dT hc2) rfl) rfl<|aR (wf2 (dT hc2) rfl) rfl<|aR (wf2 (dT hc2) rfl) rfl<|aZ (wt2 (dT hc1) rfl) rfl (dH (.bool true) (dT hc2) rfl rfl)<|vv rfl (dH (.bool true) (dT hc1) rfl rfl)<|aD<|cQ e64_10 (p := true) rfl rfl<|aM e64_11 ?_
     exact Jj1 sp1.le st1 s0 s3 H
   refine aZ (wt2 (dF hc2) rfl) rfl (aE (.string p0) s0)<|aZ (wt2 (dF hc2) rfl) rfl (aE (I i1) s3) ?_
   obtain ⟨hi2,H⟩ := cD H
   refine aZ (wt2 (dF hc2) rfl) rfl (fR u9 rfl rfl hi2.1 hi2.2) ?_
   obtain ⟨r2,hr2,H⟩ := aK H
   refine aU [.int .u8 (bt p0 i1)] en62 (wt2 (dF hc2) rfl) rfl rfl (F62 st1.has hr2) ?_
   rintro _ w2 ⟨h2,rfl,sp2⟩
   have st2 := st1.call0 sp2
   refine aZ (wt2 (dF hc2) rfl) rfl (aP .eql .i64 r2 2 (.bool (decide (r2 = 2))) 3 3 rfl rfl rfl)<|aZ (wt2 (dT hc1) rfl) rfl (dI (.bool (decide (r2 = 2))) (dF hc2) rfl rfl)<|vv rfl (dH (.bool (decide (r2 = 2))) (dT hc1) rfl rfl)<|aD ?_
   rcases aN H with ⟨hc3,H⟩ | ⟨hc3,H⟩
   · refine tr e64_10 (dT hc3) rfl<|aM e64_11 ?_
     exact Jj1 (sp1.le.trans sp2.le) st2 s0 s3 H
   refine fa e64_10 (dF hc3) rfl<|bM e64_12 rfl<|aB e64_15<|aA e64_16<|vv rfl (aE (I i1) s3)<|vv rfl (aC (I i1) rfl)<|aD ?_
   cases H
   exact aJ e64_17 (cG Try.results64 rfl ⟨h2,rfl,st2⟩)
 refine aR (wf2 (dF hc1) rfl) rfl<|aR (wf2 (dF hc1) rfl) rfl<|aR (wf2 (dF hc1) rfl) rfl<|aR (wf2 (dF hc1) rfl) rfl<|aR (wf2 (dF hc1) rfl) rfl<|aR (wf2 (dF hc1) rfl) rfl<|aR (wu rfl) rfl<|aR (wu rfl) rfl<|aR (wu rfl) rfl<|aR (wu rfl) rfl ?_
 refine aR (wu rfl) rfl<|aR (wf2 (dF hc1) rfl) rfl<|vv rfl (dI (.bool false) (dF hc1) rfl rfl)<|aD<|dJ e64_10 (p := false) rfl rfl<|bM e64_12 rfl<|aB e64_15<|aA e64_16<|vv rfl (aE (I i1) s3)<|vv rfl (aC (I i1) rfl) ?_
 refine aD ?_
 cases H
 exact aJ e64_17 (cG Try.results64 rfl ⟨h,rfl,st⟩)
theorem ZSLl64_0_all : ∀ k,ZSLl64_0 k
  | 0 => SLl64_0_z
  | k + 1 => SLl64_0_s k (ZSLl64_0_all k)
theorem Fl64_0 (k : Nat) : SLl64_0 k := (ZSLl64_0_all k)
theorem F64 (k : Nat) : S64 k := by
 intro p0 w0 h0 hh r H
 unfold m64 at H
 refine aO (fn := Try.f64) Try.func64 rfl (Nat.le_of_ble_eq_true rfl) ?_
 show Run X64 [.code c64_0] (fun t => List.getD [.string p0] t undef) w0 (.fn (Q64 w0 h0 r))
 have st0 := St.init hh noM
 refine aB e64_0<|aA e64_1<|vv rfl (aC (I 0) rfl)<|aD<|aB e64_2<|aA e64_3<|vv rfl (aC (I 0) rfl)<|aD<|aB e64_4<|aT e64_5 ?_
 refine cB e64_6 ?_
 exact Fl64_0 k st0 rfl rfl H
theorem F48 (k : Nat) : S48 k := by
 intro p0 w0 h0 hh r H
 unfold m48 at H
 refine aO (fn := Try.f48) Try.func48 rfl (Nat.le_of_ble_eq_true rfl) ?_
 show Run X48 [.code c48_0] (fun t => List.getD [.string p0] t undef) w0 (.fn (Q48 w0 h0 r))
 have st0 := St.init hh noM
 refine aB e48_0<|aA e48_1<|vv rfl (aC (.bool false) rfl)<|aD<|aB e48_2<|aA e48_3 ?_
 obtain ⟨j1,hj1,H⟩ := dE H
 have Jj1 : ∀ {y1 : Bool} {σ1 : Env} {w3 : World} {h3 : Sto},Le h0 h3 → St w0 noM h0 h3 w3 → σ1 2 = .bool y1 → j1 y1 = some r → Run X48 [.code c48_4] σ1 w3 (.fn (Q48 w0 h0 r)) := by
  intro y1 σ1 w3 h3 le1 st3 s2_j1 H
  rw [hj1] at H
  cases H
  exact aJ e48_4 (cG Try.results48 s2_j1 ⟨h3,rfl,st3⟩)
 refine vv rfl (aE (.string p0) rfl)<|vv rfl (x_strNe p0 ByteArray.empty 9 9 rfl rfl)<|vv rfl (aE (.bool (!decide (p0 = ByteArray.empty))) rfl) ?_
 rcases aN H with ⟨hc1,H⟩ | ⟨hc1,H⟩
 · refine aR (wf2 (bL (dT hc1)) rfl) rfl<|aR (wf2 (bL (dT hc1)) rfl) rfl<|aR (wf2 (bL (dT hc1)) rfl) rfl<|vv rfl (dI (.bool false) (bL (dT hc1)) rfl rfl)<|vv rfl (aE (.bool false) rfl)<|aR (wf (p := false) rfl rfl) rfl<|aR (wf (p := false) rfl rfl) rfl<|aR (wf (p := false) rfl rfl) rfl<|aR (wf (p := false) rfl rfl) rfl<|vv rfl (cI (.bool false) (p := false) rfl rfl rfl) ?_
   refine vv rfl (aE (.bool false) rfl)<|aR (wf (p := false) rfl rfl) rfl<|aR (wf (p := false) rfl rfl) rfl<|aR (wf (p := false) rfl rfl) rfl<|aR (wf (p := false) rfl rfl) rfl<|aR (wf (p := false) rfl rfl) rfl<|vv rfl (cI (.bool false) (p := false) rfl rfl rfl)<|vv rfl (aC (.bool false) rfl)<|aD ?_
   exact Jj1 (Le.refl _) st0 rfl H
 refine aZ (wt2 (bK (dF hc1)) rfl) rfl (aE (.string p0) rfl)<|aZ (wt2 (bK (dF hc1)) rfl) rfl (eB u9 rfl)<|aZ (wt2 (bK (dF hc1)) rfl) rfl (aP .leq .i64 (p0.size : Int) 16 (.bool (decide ((p0.size : Int) ≤ 16))) 3 3 rfl rfl rfl)<|vv rfl (dH (.bool (decide ((p0.size : Int) ≤ 16))) (bK (dF hc1)) rfl rfl)<|vv rfl (aE (.bool (decide ((p0.size : Int) ≤ 16))) rfl) ?_
 rcases aN H with ⟨hc2,H⟩ | ⟨hc2,H⟩
 · refine aZ (wt2 (dT hc2) rfl) rfl (aE (.string p0) rfl) ?_
   obtain ⟨hi1,H⟩ := cD H
   refine aZ (wt2 (dT hc2) rfl) rfl (fR u9 rfl rfl hi1.1 hi1.2) ?_
   obtain ⟨r1,hr1,H⟩ := aK H
   refine aU [.int .u8 (bt p0 0)] en62 (wt2 (dT hc2) rfl) rfl rfl (F62 st0.has hr1) ?_
   rintro _ w1 ⟨h1,rfl,sp1⟩
   have st1 := st0.call0 sp1
   refine aZ (wt2 (dT hc2) rfl) rfl (aP .eql .i64 r1 1 (.bool (decide (r1 = 1))) 3 3 rfl rfl rfl)<|vv rfl (dH (.bool (decide (r1 = 1))) (dT hc2) rfl rfl)<|vv rfl (aE (.bool (decide (r1 = 1))) rfl) ?_
   rcases aN H with ⟨hc3,H⟩ | ⟨hc3,H⟩
   · refine aZ (wt2 (dT hc3) rfl) rfl (aE (.string p0) rfl) ?_
     obtain ⟨r2,hr2,H⟩ := aK H
     refine aU [.string p0] en64 (wt2 (dT hc3) rfl) rfl rfl (F64 k st1.has hr2) ?_
     rintro _ w2 ⟨h2,rfl,sp2⟩
     have st2 := st1.call0 sp2
     refine aZ (wt2 (dT hc3) rfl) rfl (aE (.string p0) rfl)<|aZ (wt2 (dT hc3) rfl) rfl (eB u9 rfl)<|aZ (wt2 (dT hc3) rfl) rfl (aP .eql .i64 r2 (p0.size : Int) (.bool (decide (r2 = (p0.size : Int)))) 3 3 rfl rfl rfl)<|vv rfl (dH (.bool (decide (r2 = (p0.size : Int)))) (dT hc3) rfl rfl)<|vv rfl (aC (.bool (decide (r2 = (p0.size : Int)))) rfl)<|aD ?_
     exact Jj1 (sp1.le.trans sp2.le) st2 rfl H
   refine aR (wf2 (dF hc3) rfl) rfl<|aR (wf2 (dF hc3) rfl) rfl<|aR (wf2 (dF hc3) rfl) rfl<|aR (wf2 (dF hc3) rfl) rfl<|aR (wf2 (dF hc3) rfl) rfl<|vv rfl (dI (.bool false) (dF hc3) rfl rfl)<|vv rfl (aC (.bool false) rfl)<|aD ?_
   exact Jj1 sp1.le st1 rfl H
 refine aR (wf2 (dF hc2) rfl) rfl<|aR (wf2 (dF hc2) rfl) rfl<|aR (wf2 (dF hc2) rfl) rfl<|aR (wf2 (dF hc2) rfl) rfl<|vv rfl (dI (.bool false) (dF hc2) rfl rfl)<|vv rfl (aE (.bool false) rfl)<|aR (wf (p := false) rfl rfl) rfl<|aR (wf (p := false) rfl rfl) rfl<|aR (wf (p := false) rfl rfl) rfl<|aR (wf (p := false) rfl rfl) rfl ?_
 refine aR (wf (p := false) rfl rfl) rfl<|vv rfl (cI (.bool false) (p := false) rfl rfl rfl)<|vv rfl (aC (.bool false) rfl)<|aD ?_
 exact Jj1 (Le.refl _) st0 rfl H
theorem F46 (k : Nat) : S46 k := by
 intro p0 w0 h0 hh r H
 unfold m46 at H
 refine aO (fn := Try.f46) Try.func46 rfl (Nat.le_of_ble_eq_true rfl) ?_
 show Run X46 [.code c46_0] (fun t => List.getD [.string p0] t undef) w0 (.fn (Q46 w0 h0 r))
 have st0 := St.init hh noM
 refine aB e46_0<|aA e46_1<|vv rfl (aC (.bool false) rfl)<|aD<|aB e46_2<|aA e46_3 ?_
 obtain ⟨j1,hj1,H⟩ := dE H
 have Jj1 : ∀ {y1 : Bool} {σ1 : Env} {w2 : World} {h2 : Sto},Le h0 h2 → St w0 noM h0 h2 w2 → σ1 2 = .bool y1 → j1 y1 = some r → Run X46 [.code c46_4] σ1 w2 (.fn (Q46 w0 h0 r)) := by
  intro y1 σ1 w2 h2 le1 st2 s2_j1 H
  rw [hj1] at H
  cases H
  exact aJ e46_4 (cG Try.results46 s2_j1 ⟨h2,rfl,st2⟩)
 refine vv rfl (aE (.string p0) rfl) ?_
 obtain ⟨r1,hr1,H⟩ := aK H
 refine aU [.string p0] en48 rfl rfl rfl (F48 k st0.has hr1) ?_
 rintro _ w1 ⟨h1,rfl,sp1⟩
 have st1 := st0.call0 sp1
 refine vv rfl (aE (.bool r1) rfl) ?_
 rcases aN H with ⟨hc1,H⟩ | ⟨hc1,H⟩
 · refine aZ (wt2 hc1 rfl) rfl (aE (.string p0) rfl)<|aZ (wt2 hc1 rfl) rfl (x_strNe p0 (⟨#[115,117,109]⟩ : ByteArray) 9 9 rfl rfl)<|vv rfl (dH (.bool (!decide (p0 = (⟨#[115,117,109]⟩ : ByteArray)))) hc1 rfl rfl)<|vv rfl (aE (.bool (!decide (p0 = (⟨#[115,117,109]⟩ : ByteArray)))) rfl) ?_
   rcases aN H with ⟨hc2,H⟩ | ⟨hc2,H⟩
   · refine aR (wf2 (bL (dT hc2)) rfl) rfl<|aR (wf2 (bL (dT hc2)) rfl) rfl<|vv rfl (dI (.bool false) (bL (dT hc2)) rfl rfl)<|vv rfl (aC (.bool false) rfl)<|aD ?_
     exact Jj1 sp1.le st1 rfl H
   refine aZ (wt2 (bK (dF hc2)) rfl) rfl (aE (.string p0) rfl)<|aZ (wt2 (bK (dF hc2)) rfl) rfl (x_strNe p0 (⟨#[116,101,110,115,111,114]⟩ : ByteArray) 9 9 rfl rfl)<|vv rfl (dH (.bool (!decide (p0 = (⟨#[116,101,110,115,111,114]⟩ : ByteArray)))) (bK (dF hc2)) rfl rfl)<|vv rfl (aC (.bool (!decide (p0 = (⟨#[116,101,110,115,111,114]⟩ : ByteArray)))) rfl)<|aD ?_
   exact Jj1 sp1.le st1 rfl H
 refine aR (wf2 (cA hc1) rfl) rfl<|aR (wf2 (cA hc1) rfl) rfl<|vv rfl (dI (.bool false) (cA hc1) rfl rfl)<|vv rfl (aE (.bool false) rfl)<|aR (wf (p := false) rfl rfl) rfl<|aR (wf (p := false) rfl rfl) rfl<|vv rfl (cI (.bool false) (p := false) rfl rfl rfl)<|vv rfl (aC (.bool false) rfl)<|aD ?_
 exact Jj1 sp1.le st1 rfl H
theorem F80 (k : Nat) : S80 k := by
 intro p0 w0 h0 hh r H
 unfold m80 at H
 refine aO (fn := Try.f80) Try.func80 rfl (Nat.le_of_ble_eq_true rfl) ?_
 show Run X80 [.code c80_0] (fun t => List.getD [.string p0] t undef) w0 (.fn (Q80 w0 h0 r))
 have st0 := St.init hh noM
 refine aB e80_0<|aA e80_1<|vv rfl (aC (.bool false) rfl)<|aD<|aB e80_2<|aA e80_3<|vv rfl (aE (.string p0) rfl) ?_
 obtain ⟨r1,hr1,H⟩ := aK H
 refine aU [.string p0] en46 rfl rfl rfl (F46 k st0.has hr1) ?_
 rintro _ w1 ⟨h1,rfl,sp1⟩
 have st1 := st0.call0 sp1
 refine vv rfl (eA r1 4 rfl)<|vv rfl (aC (.bool (!r1)) rfl)<|aD ?_
 cases H
 exact aJ e80_4 (cG Try.results80 rfl ⟨h1,rfl,st1⟩)
abbrev ZSLl92_0 (k : Nat) : Prop := SLl92_0 k
theorem SLl92_0_z : SLl92_0 0 := by
  unfold SLl92_0; intros; rename_i H; exact absurd H (by simp [l92_0])
theorem SLl92_0_s (k : Nat) (ih : ZSLl92_0 k) : SLl92_0 (k + 1) := by
 intro p0 bA bC j1 w0 w h0 h σ xs1 r st s0 s1 s7 s8 R1 hd1 H
 cases xs1 with
 | nil =>
  rw [l92_0] at H
  have hk1 := cV hd1
  refine aB e92_7<|aA e92_8<|vv rfl (aP .lss .i64 (j1 : Int) (p0.length : Int) (.bool (decide ((j1 : Int) < (p0.length : Int)))) 3 3 s8 s7 rfl)<|aD<|aB e92_9<|fa e92_10 hk1 rfl<|bM e92_12 rfl<|aB e92_25<|aA e92_26<|vv rfl (aC (I (-1)) rfl) ?_
  refine aD ?_
  cases H
  exact aJ e92_27 (cG Try.results92 rfl ⟨h,rfl,st⟩)
 | cons x1 xs2 =>
  rw [l92_0] at H
  obtain ⟨hk2,hj1,hx1,hd2⟩ := cL hd1
  refine aB e92_7<|aA e92_8<|vv rfl (aP .lss .i64 (j1 : Int) (p0.length : Int) (.bool (decide ((j1 : Int) < (p0.length : Int)))) 3 3 s8 s7 rfl)<|aD<|aB e92_9<|tr e92_10 hk2 rfl<|aM e92_11<|aB e92_13<|aT e92_14<|aB e92_15 ?_
  refine aA e92_16<|vv rfl (aE (I (j1 : Int)) s8)<|vv rfl (aC (I (j1 : Int)) rfl)<|aD<|aB e92_17<|aA e92_18<|vv rfl (aE (.func (.func 80) #[] #[]) s1)<|vv rfl (aE (.slice bA p0.length bC) s0)<|vv rfl (aE (I (j1 : Int)) rfl) ?_
  obtain ⟨b1,o1,vs1,ea1,rp1,cl1⟩ := SlR.at R1 hx1
  obtain rfl := rp1
  refine vv rfl (aX u28 sz9 rfl rfl ea1 (Int.natCast_nonneg _) (Int.ofNat_lt.2 hj1))<|vv rfl (aL (.string x1) sc9 rfl (((cl1 _ (Has.le (Le.refl _) st.has)) 0 (by decide)).trans rfl)) ?_
  obtain ⟨r1,hr1,H⟩ := aK H
  refine dR [] [] [.string x1] [.string x1] en80 rfl rfl rfl rfl rfl (F80 k st.has hr1) ?_
  rintro _ w1 ⟨h1,rfl,sp1⟩
  have st1 := st.call0 sp1
  refine aD ?_
  rcases aN H with ⟨hc1,H⟩ | ⟨hc1,H⟩
  · refine tr e92_19 hc1 rfl<|aB e92_20<|aA e92_21<|vv rfl (aE (I (j1 : Int)) rfl)<|vv rfl (aC (I (j1 : Int)) rfl)<|aD ?_
    cases H
    exact aJ e92_22 (cG Try.results92 rfl ⟨h1,rfl,st1⟩)
  refine fa e92_19 (cA hc1) rfl<|aM e92_23<|aW<|aA e92_24<|vv rfl (aP .add .i64 (j1 : Int) 1 (I ((j1 + 1 : Nat) : Int)) 3 3 s8 rfl (dL hj1 (SlR.mono sp1.le R1).mx))<|vv rfl (aE (I ((j1 + 1 : Nat) : Int)) rfl)<|aD<|bF ?_
  exact ih (j1 := (j1 + 1)) st1 s0 s1 s7 rfl (SlR.mono sp1.le R1) hd2 H
theorem ZSLl92_0_all : ∀ k,ZSLl92_0 k
  | 0 => SLl92_0_z
  | k + 1 => SLl92_0_s k (ZSLl92_0_all k)
theorem Fl92_0 (k : Nat) : SLl92_0 k := (ZSLl92_0_all k)
theorem F92 (k : Nat) : S92 k := by
 intro p0 bA bC w0 h0 hh Rp0 r H
 unfold m92 at H
 refine aO (fn := Try.f92) Try.func92 rfl (Nat.le_of_ble_eq_true rfl) ?_
 show Run X92 [.code c92_0] (fun t => List.getD [.slice bA p0.length bC,.func (.func 80) #[] #[]] t undef) w0 (.fn (Q92 w0 h0 r))
 have st0 := St.init hh noM
 refine aB e92_0<|aA e92_1<|vv rfl (aC (I 0) rfl)<|aD<|aB e92_2<|aB e92_3<|aA e92_4<|vv rfl (aE (.slice bA p0.length bC) rfl)<|vv rfl (bN u28 rfl)<|vv rfl (aE (I 0) rfl) ?_
 refine aD<|aT e92_5<|cB e92_6 ?_
 exact Fl92_0 k (j1 := 0) st0 rfl rfl rfl rfl Rp0 rfl H
theorem F79 (k : Nat) : S79 k := by
 intro p0 bA bC w0 h0 hh Rp0 r H
 unfold m79 at H
 refine aO (fn := Try.f79) Try.func79 rfl (Nat.le_of_ble_eq_true rfl) ?_
 show Run X79 [.code c79_0] (fun t => List.getD [.slice bA p0.length bC,.func (.func 80) #[] #[]] t undef) w0 (.fn (Q79 w0 h0 r))
 have st0 := St.init hh noM
 refine aB e79_0<|aA e79_1<|vv rfl (aC (.bool false) rfl)<|aD<|aB e79_2<|aA e79_3<|vv rfl (aE (.slice bA p0.length bC) rfl)<|vv rfl (aE (.func (.func 80) #[] #[]) rfl) ?_
 obtain ⟨r1,hr1,H⟩ := aK H
 refine aU [.slice bA p0.length bC,.func (.func 80) #[] #[]] en92 rfl rfl rfl (F92 k st0.has Rp0 hr1) ?_
 rintro _ w1 ⟨h1,rfl,sp1⟩
 have st1 := st0.call0 sp1
 refine vv rfl (aP .geq .i64 r1 0 (.bool (decide (0 ≤ r1))) 3 3 rfl rfl rfl)<|vv rfl (aC (.bool (decide (0 ≤ r1))) rfl)<|aD ?_
 cases H
 exact aJ e79_4 (cG Try.results79 rfl ⟨h1,rfl,st1⟩)
theorem F49 (k : Nat) : S49 k := by
 intro p0 bA bC w0 h0 hh Rp0 r H
 unfold m49 at H
 refine aO (fn := Try.f49) Try.func49 rfl (Nat.le_of_ble_eq_true rfl) ?_
 show Run X49 [.code c49_0] (fun t => List.getD [.slice bA p0.length bC] t undef) w0 (.fn (Q49 w0 h0 r))
 have st0 := St.init hh noM
 refine aB e49_0<|aA e49_1<|vv rfl (aC (.bool false) rfl)<|aD<|aB e49_2<|aA e49_3 ?_
 obtain ⟨j1,hj1,H⟩ := dE H
 have Jj1 : ∀ {y1 : Bool} {σ1 : Env} {w2 : World} {h2 : Sto},Le h0 h2 → St w0 noM h0 h2 w2 → σ1 2 = .bool y1 → j1 y1 = some r → Run X49 [.code c49_4] σ1 w2 (.fn (Q49 w0 h0 r)) := by
  intro y1 σ1 w2 h2 le1 st2 s2_j1 H
  rw [hj1] at H
  cases H
  exact aJ e49_4 (cG Try.results49 s2_j1 ⟨h2,rfl,st2⟩)
 refine vv rfl (aE (.slice bA p0.length bC) rfl)<|vv rfl (bN u28 rfl)<|vv rfl (aP .leq .i64 (p0.length : Int) 4 (.bool (decide ((p0.length : Int) ≤ 4))) 3 3 rfl rfl rfl)<|vv rfl (aE (.bool (decide ((p0.length : Int) ≤ 4))) rfl) ?_
 rcases aN H with ⟨hc1,H⟩ | ⟨hc1,H⟩
 · refine aZ (wt2 (dT hc1) rfl) rfl (aE (.slice bA p0.length bC) rfl) ?_
   obtain ⟨r1,hr1,H⟩ := aK H
   refine aU [.slice bA p0.length bC,.func (.func 80) #[] #[]] en79 (wt2 (dT hc1) rfl) rfl rfl (F79 k st0.has Rp0 hr1) ?_
   rintro _ w1 ⟨h1,rfl,sp1⟩
   have st1 := st0.call0 sp1
   refine aZ (wt2 (dT hc1) rfl) rfl (eA r1 4 rfl)<|vv rfl (dH (.bool (!r1)) (dT hc1) rfl rfl)<|vv rfl (aC (.bool (!r1)) rfl)<|aD ?_
   exact Jj1 sp1.le st1 rfl H
 refine aR (wf2 (dF hc1) rfl) rfl<|aR (wf2 (dF hc1) rfl) rfl<|aR (wf2 (dF hc1) rfl) rfl<|vv rfl (dI (.bool false) (dF hc1) rfl rfl)<|vv rfl (aC (.bool false) rfl)<|aD ?_
 exact Jj1 (Le.refl _) st0 rfl H
theorem F61 : S61 := by
 intro p0 w0 h0 hh r H
 unfold m61 at H
 refine aO (fn := Try.f61) Try.func61 rfl (Nat.le_of_ble_eq_true rfl) ?_
 show Run X61 [.code c61_0] (fun t => List.getD [I p0] t undef) w0 (.fn (Q61 w0 h0 r))
 have st0 := St.init hh noM
 refine aB e61_0<|aA e61_1<|vv rfl (aC (I 0) rfl)<|aD<|aB e61_2<|aB e61_3<|aA e61_4<|vv rfl (aE (I p0) rfl)<|aD<|aT e61_5 ?_
 refine aB e61_6<|aB e61_7<|aA e61_8<|vv rfl (aP .eql .i64 p0 1 (.bool (decide (p0 = 1))) 3 3 rfl rfl rfl)<|vv rfl (aC (.bool (decide (p0 = 1))) rfl)<|aD ?_
 rcases aN H with ⟨hc1,H⟩ | ⟨hc1,H⟩
 · refine tr e61_9 (dT hc1) rfl<|aM e61_10<|tr e61_12 (dT hc1) rfl<|aB e61_13<|aA e61_14<|vv rfl (aC (I 0) rfl)<|aD ?_
   cases H
   exact aJ e61_15 (cG Try.results61 rfl ⟨h0,rfl,st0⟩)
 refine fa e61_9 (dF hc1) rfl<|aA e61_11<|vv rfl (aP .eql .i64 p0 2 (.bool (decide (p0 = 2))) 3 3 rfl rfl rfl)<|vv rfl (aC (.bool (decide (p0 = 2))) rfl)<|aD ?_
 rcases aN H with ⟨hc2,H⟩ | ⟨hc2,H⟩
 · refine tr e61_12 (dT hc2) rfl<|aB e61_13<|aA e61_14<|vv rfl (aC (I 0) rfl)<|aD ?_
   cases H
   exact aJ e61_15 (cG Try.results61 rfl ⟨h0,rfl,st0⟩)
 refine fa e61_12 (dF hc2) rfl<|aB e61_16<|aB e61_17<|aA e61_18<|vv rfl (aP .eql .i64 p0 6 (.bool (decide (p0 = 6))) 3 3 rfl rfl rfl)<|vv rfl (aC (.bool (decide (p0 = 6))) rfl)<|aD ?_
 rcases aN H with ⟨hc3,H⟩ | ⟨hc3,H⟩
 · refine tr e61_19 (dT hc3) rfl<|aM e61_20<|tr e61_22 (dT hc3) rfl<|aB e61_23<|aA e61_24<|vv rfl (aC (I 1) rfl)<|aD ?_
   cases H
   exact aJ e61_25 (cG Try.results61 rfl ⟨h0,rfl,st0⟩)
 refine fa e61_19 (dF hc3) rfl<|aA e61_21<|vv rfl (aP .eql .i64 p0 7 (.bool (decide (p0 = 7))) 3 3 rfl rfl rfl)<|vv rfl (aC (.bool (decide (p0 = 7))) rfl)<|aD ?_
 rcases aN H with ⟨hc4,H⟩ | ⟨hc4,H⟩
 · refine tr e61_22 (dT hc4) rfl<|aB e61_23<|aA e61_24<|vv rfl (aC (I 1) rfl)<|aD ?_
   cases H
   exact aJ e61_25 (cG Try.results61 rfl ⟨h0,rfl,st0⟩)
 refine fa e61_22 (dF hc4) rfl<|aB e61_26<|aB e61_27<|aA e61_28<|vv rfl (aP .eql .i64 p0 3 (.bool (decide (p0 = 3))) 3 3 rfl rfl rfl)<|vv rfl (aC (.bool (decide (p0 = 3))) rfl)<|aD ?_
 rcases aN H with ⟨hc5,H⟩ | ⟨hc5,H⟩
 · refine tr e61_29 (dT hc5) rfl<|aM e61_30<|tr e61_36 (dT hc5) rfl<|aB e61_37<|aA e61_38<|vv rfl (aC (I 2) rfl)<|aD ?_
   cases H
   exact aJ e61_39 (cG Try.results61 rfl ⟨h0,rfl,st0⟩)
 refine fa e61_29 (dF hc5) rfl<|aB e61_31<|aA e61_32<|vv rfl (aP .eql .i64 p0 4 (.bool (decide (p0 = 4))) 3 3 rfl rfl rfl)<|vv rfl (aC (.bool (decide (p0 = 4))) rfl)<|aD ?_
 rcases aN H with ⟨hc6,H⟩ | ⟨hc6,H⟩
 · refine tr e61_33 (dT hc6) rfl<|aM e61_34<|tr e61_36 (dT hc6) rfl<|aB e61_37<|aA e61_38<|vv rfl (aC (I 2) rfl)<|aD ?_
   cases H
   exact aJ e61_39 (cG Try.results61 rfl ⟨h0,rfl,st0⟩)
 refine fa e61_33 (dF hc6) rfl<|aA e61_35<|vv rfl (aP .eql .i64 p0 5 (.bool (decide (p0 = 5))) 3 3 rfl rfl rfl)<|vv rfl (aC (.bool (decide (p0 = 5))) rfl)<|aD ?_
 rcases aN H with ⟨hc7,H⟩ | ⟨hc7,H⟩
 · refine tr e61_36 (dT hc7) rfl<|aB e61_37<|aA e61_38<|vv rfl (aC (I 2) rfl)<|aD ?_
   cases H
   exact aJ e61_39 (cG Try.results61 rfl ⟨h0,rfl,st0⟩)
 refine fa e61_36 (dF hc7) rfl<|aM e61_40<|aW<|aB e61_41<|aA e61_42<|vv rfl (aC (I (-1)) rfl)<|aD ?_
 cases H
 exact aJ e61_43 (cG Try.results61 rfl ⟨h0,rfl,st0⟩)
end Go.Proofs.Ytjdfoipnmbnkeaa
