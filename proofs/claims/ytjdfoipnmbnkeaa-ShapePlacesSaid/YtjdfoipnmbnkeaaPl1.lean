/- ShapePlaces holds: for every input the law returns true, and the input reads as it did. Part 2 of 6. No conditions. -/
import Derived.Test.YtjdfoipnmbnkeaaPl0
import Derived.Test.YtjdfoipnmbnkeaaProg
set_option maxRecDepth 100000
set_option maxHeartbeats 8000000
namespace Go.Proofs.Ytjdfoipnmbnkeaa
noncomputable section
open Go
def sA : Code → Code | .seq a _ => a | c => c
def sB : Code → Code | .seq _ b => b | c => c
def cT : Code → Code | .cond _ a _ => a | c => c
def cE : Code → Code | .cond _ _ b => b | c => c
def bB : Code → Code | .block _ b => b | .loop b => b | .scope b => b | c => c
def rA : Code → Code | .rangeFunc _ _ a _ => a | c => c
def rB : Code → Code | .rangeFunc _ _ _ b => b | c => c
def X3 : Fx := Fx.of Try.prog Try.f3
def X8 : Fx := Fx.of Try.prog Try.f8
def X9 : Fx := Fx.of Try.prog Try.f9
def X10 : Fx := Fx.of Try.prog Try.f10
def X11 : Fx := Fx.of Try.prog Try.f11
def X12 : Fx := Fx.of Try.prog Try.f12
def X13 : Fx := Fx.of Try.prog Try.f13
def X14 : Fx := Fx.of Try.prog Try.f14
def X15 : Fx := Fx.of Try.prog Try.f15
def X17 : Fx := Fx.of Try.prog Try.f17
def X18 : Fx := Fx.of Try.prog Try.f18
def X21 : Fx := Fx.of Try.prog Try.f21
def X24 : Fx := Fx.of Try.prog Try.f24
def X25 : Fx := Fx.of Try.prog Try.f25
def X26 : Fx := Fx.of Try.prog Try.f26
def X27 : Fx := Fx.of Try.prog Try.f27
def X28 : Fx := Fx.of Try.prog Try.f28
def X29 : Fx := Fx.of Try.prog Try.f29
def X30 : Fx := Fx.of Try.prog Try.f30
def X31 : Fx := Fx.of Try.prog Try.f31
def X32 : Fx := Fx.of Try.prog Try.f32
def X33 : Fx := Fx.of Try.prog Try.f33
def X34 : Fx := Fx.of Try.prog Try.f34
def X35 : Fx := Fx.of Try.prog Try.f35
def X38 : Fx := Fx.of Try.prog Try.f38
def X40 : Fx := Fx.of Try.prog Try.f40
def X41 : Fx := Fx.of Try.prog Try.f41
def X42 : Fx := Fx.of Try.prog Try.f42
def X43 : Fx := Fx.of Try.prog Try.f43
def X44 : Fx := Fx.of Try.prog Try.f44
def X45 : Fx := Fx.of Try.prog Try.f45
def X46 : Fx := Fx.of Try.prog Try.f46
def X47 : Fx := Fx.of Try.prog Try.f47
def X48 : Fx := Fx.of Try.prog Try.f48
def X49 : Fx := Fx.of Try.prog Try.f49
def X50 : Fx := Fx.of Try.prog Try.f50
def X51 : Fx := Fx.of Try.prog Try.f51
def X52 : Fx := Fx.of Try.prog Try.f52
def X53 : Fx := Fx.of Try.prog Try.f53
def X54 : Fx := Fx.of Try.prog Try.f54
def X55 : Fx := Fx.of Try.prog Try.f55
def X56 : Fx := Fx.of Try.prog Try.f56
def X57 : Fx := Fx.of Try.prog Try.f57
def X58 : Fx := Fx.of Try.prog Try.f58
def X59 : Fx := Fx.of Try.prog Try.f59
def X60 : Fx := Fx.of Try.prog Try.f60
def X61 : Fx := Fx.of Try.prog Try.f61
def X62 : Fx := Fx.of Try.prog Try.f62
def X63 : Fx := Fx.of Try.prog Try.f63
def X64 : Fx := Fx.of Try.prog Try.f64
def X65 : Fx := Fx.of Try.prog Try.f65
def X66 : Fx := Fx.of Try.prog Try.f66
def X67 : Fx := Fx.of Try.prog Try.f67
def X68 : Fx := Fx.of Try.prog Try.f68
def X69 : Fx := Fx.of Try.prog Try.f69
def X70 : Fx := Fx.of Try.prog Try.f70
def X71 : Fx := Fx.of Try.prog Try.f71
def X72 : Fx := Fx.of Try.prog Try.f72
def X73 : Fx := Fx.of Try.prog Try.f73
def X74 : Fx := Fx.of Try.prog Try.f74
def X75 : Fx := Fx.of Try.prog Try.f75
def X76 : Fx := Fx.of Try.prog Try.f76
def X77 : Fx := Fx.of Try.prog Try.f77
def X78 : Fx := Fx.of Try.prog Try.f78
def X79 : Fx := Fx.of Try.prog Try.f79
def X80 : Fx := Fx.of Try.prog Try.f80
def X81 : Fx := Fx.of Try.prog Try.f81
def X82 : Fx := Fx.of Try.prog Try.f82
def X83 : Fx := Fx.of Try.prog Try.f83
def X84 : Fx := Fx.of Try.prog Try.f84
def X85 : Fx := Fx.of Try.prog Try.f85
def X86 : Fx := Fx.of Try.prog Try.f86
def X87 : Fx := Fx.of Try.prog Try.f87
def X88 : Fx := Fx.of Try.prog Try.f88
def X89 : Fx := Fx.of Try.prog Try.f89
def X90 : Fx := Fx.of Try.prog Try.f90
def X91 : Fx := Fx.of Try.prog Try.f91
def X92 : Fx := Fx.of Try.prog Try.f92
def X93 : Fx := Fx.of Try.prog Try.f93
def X94 : Fx := Fx.of Try.prog Try.f94
def X96 : Fx := Fx.of Try.prog Try.f96
def X97 : Fx := Fx.of Try.prog Try.f97
def X98 : Fx := Fx.of Try.prog Try.f98
def X99 : Fx := Fx.of Try.prog Try.f99
def X100 : Fx := Fx.of Try.prog Try.f100
def X101 : Fx := Fx.of Try.prog Try.f101
def c3_0 := cK Try.f3
def c3_1 := sA c3_0
theorem e3_1 : aI c3_1 = some [oo 1 (.box 25 (.tmp 0)) 0,oo 2 (.assign (.const (.bool false))) 4] := by kernel_rfl
def c3_2 := sB c3_0
def c3_3 := sA c3_2
theorem e3_3 : aI c3_3 = some [oo 20 (.call ⟨.value (.func 8),(List.toArray []),#[]⟩) 4,oo 3 (.assign (.tmp 20)) 4] := by kernel_rfl
def c3_4 := sB c3_2
def c3_5 := sA c3_4
def c3_6 := sA c3_5
theorem e3_6 : aI c3_6 = some [oo 21 (.load 25 (.tmp 1)) 25,oo 22 (.call ⟨.value (.func 9),(List.toArray [(.tmp 21)]),#[25]⟩) 4,oo 23 (.unOp .not 4 (.tmp 22)) 4] := by kernel_rfl
def c3_7 := sB c3_5
def c3_8 := cT c3_7
def c3_9 := sA c3_8
theorem e3_9 : aI c3_9 = some [oo 24 (.move (.tmp 3)) 4,oo 2 (.assign (.tmp 24)) 4] := by kernel_rfl
def c3_10 := sB c3_8
theorem e3_10 : c3_10 = .ret := by kernel_rfl
theorem e3_8 : c3_8 = .seq c3_9 c3_10 := by kernel_rfl
def c3_11 := cE c3_7
theorem e3_11 : c3_11 = .skip := by kernel_rfl
theorem e3_7 : c3_7 = .cond (.tmp 23) c3_8 c3_11 := by kernel_rfl
theorem e3_5 : c3_5 = .seq c3_6 c3_7 := by kernel_rfl
def c3_12 := sB c3_4
def c3_13 := sA c3_12
def c3_14 := sA c3_13
theorem e3_14 : aI c3_14 = some [oo 25 (.fieldAddr 25 (.tmp 1) 1) 0,oo 26 (.load 23 (.tmp 25)) 23,oo 27 (.call ⟨.builtin .len,#[(.tmp 26)],#[23]⟩) 3,oo 28 (.move (.const (.int .i64 0))) 3] := by kernel_rfl
def c3_15 := sB c3_13
def c3_16 := bB c3_15
def c3_17 := bB c3_16
def c3_18 := sA c3_17
theorem e3_18 : aI c3_18 = some [oo 29 (.binOp .lss 3 (.tmp 28) (.tmp 27) 3) 0] := by kernel_rfl
def c3_19 := sB c3_17
def c3_20 := sA c3_19
def c3_21 := cT c3_20
theorem e3_21 : c3_21 = .skip := by kernel_rfl
def c3_22 := cE c3_20
theorem e3_22 : c3_22 = .exit 0 := by kernel_rfl
theorem e3_20 : c3_20 = .cond (.tmp 29) c3_21 c3_22 := by kernel_rfl
def c3_23 := sB c3_19
def c3_24 := sA c3_23
def c3_25 := bB c3_24
def c3_26 := sA c3_25
theorem e3_26 : aI c3_26 = some [oo 30 (.indexAddr 23 (.tmp 26) (.tmp 28)) 0,oo 31 (.load 33 (.tmp 30)) 33,oo 5 (.alloc 33) 0,⟨none,none,.store 33 (.tmp 5) (.tmp 31),0⟩] := by kernel_rfl
def c3_27 := sB c3_25
def c3_28 := sA c3_27
theorem e3_28 : aI c3_28 = some [oo 33 (.load 33 (.tmp 5)) 33,oo 34 (.fieldAddr 25 (.tmp 1) 0) 0,oo 35 (.load 22 (.tmp 34)) 22,oo 36 (.call ⟨.value (.func 10),(List.toArray [(.tmp 33),(.tmp 35)]),#[33,22]⟩) 36,oo 32 (.move (.tmp 36)) 36,oo 37 (.extract (.tmp 32) 0) 34,oo 38 (.extract (.tmp 32) 1) 35,oo 6 (.assign (.tmp 37)) 34,oo 7 (.assign (.tmp 38)) 35] := by kernel_rfl
def c3_29 := sB c3_27
def c3_30 := sA c3_29
def c3_31 := sA c3_30
theorem e3_31 : aI c3_31 = some [oo 39 (.move (.tmp 7)) 35,oo 40 (.binOp .neq 35 (.tmp 39) (.const (.int .i64 0)) 35) 4] := by kernel_rfl
def c3_32 := sB c3_30
def c3_33 := cT c3_32
theorem e3_33 : c3_33 = .exit 1 := by kernel_rfl
def c3_34 := cE c3_32
theorem e3_34 : c3_34 = .skip := by kernel_rfl
theorem e3_32 : c3_32 = .cond (.tmp 40) c3_33 c3_34 := by kernel_rfl
theorem e3_30 : c3_30 = .seq c3_31 c3_32 := by kernel_rfl
def c3_35 := sB c3_29
def c3_36 := sA c3_35
def c3_37 := sA c3_36
theorem e3_37 : aI c3_37 = some [oo 41 (.move (.tmp 6)) 34,oo 42 (.call ⟨.builtin .len,#[(.tmp 41)],#[34]⟩) 3,oo 43 (.move (.const (.int .i64 0))) 3] := by kernel_rfl
def c3_38 := sB c3_36
def c3_39 := bB c3_38
def c3_40 := bB c3_39
def c3_41 := sA c3_40
theorem e3_41 : aI c3_41 = some [oo 44 (.binOp .lss 3 (.tmp 43) (.tmp 42) 3) 0] := by kernel_rfl
def c3_42 := sB c3_40
def c3_43 := sA c3_42
def c3_44 := cT c3_43
theorem e3_44 : c3_44 = .skip := by kernel_rfl
def c3_45 := cE c3_43
theorem e3_45 : c3_45 = .exit 2 := by kernel_rfl
theorem e3_43 : c3_43 = .cond (.tmp 44) c3_44 c3_45 := by kernel_rfl
def c3_46 := sB c3_42
def c3_47 := sA c3_46
def c3_48 := bB c3_47
def c3_49 := sA c3_48
theorem e3_49 : aI c3_49 = some [oo 45 (.move (.tmp 43)) 3,oo 46 (.indexAddr 34 (.tmp 41) (.tmp 43)) 0,oo 47 (.load 39 (.tmp 46)) 39,oo 9 (.alloc 39) 0,oo 8 (.assign (.tmp 45)) 3,⟨none,none,.store 39 (.tmp 9) (.tmp 47),0⟩] := by kernel_rfl
def c3_50 := sB c3_48
def c3_51 := sA c3_50
def o3_51 : List COp := [oo 49 (.move (.tmp 6)) 34,oo 50 (.move (.tmp 8)) 3,oo 51 (.slice 34 (.tmp 49) none (some (.tmp 50)) none) 34,oo 52 (.fieldAddr 39 (.tmp 9) 0) 0,oo 53 (.load 9 (.tmp 52)) 9,oo 54 (.call ⟨.value (.func 11),(List.toArray [(.tmp 51),(.tmp 53)]),#[34,9]⟩) 40,oo 48 (.move (.tmp 54)) 40,oo 55 (.extract (.tmp 48) 0) 3,oo 56 (.extract (.tmp 48) 1) 4,oo 10 (.assign (.tmp 55)) 3,oo 11 (.assign (.tmp 56)) 4]
def d3_51 : List (List Nat) := [[],[],[0,1],[],[3],[2,4],[5],[6],[6],[7,5,0,1,2,3,4,5,6,7],[8,9,0,1,2,3,4,5,6,7,8,9]]
theorem e3_51 : rDrw c3_51 = some (o3_51,d3_51) := by kernel_rfl
theorem k3_51 : chkCs o3_51 d3_51 X3.fn.ntmps [5] [[(0,false),(1,false),(2,false),(3,false),(4,false),(5,true),(6,false),(7,false),(8,false),(9,false),(10,false)]] = true := by kernel_rfl
theorem m3_51 : chkM [0,1,2,3,4,5,6,7,8,9,10] [0,1,2,3,4,5,6,7,9,8,10] c3_51 = true := by kernel_rfl
def c3_52 := sB c3_50
def c3_53 := sA c3_52
def o3_53 : List COp := [oo 57 (.move (.tmp 11)) 4,oo 58 (.move (.tmp 57)) 4,⟨some (58,false),some 59,.move (.tmp 8),3⟩,⟨some (58,false),some 60,.fieldAddr 33 (.tmp 5) 1,0⟩,⟨some (58,false),some 61,.load 28 (.tmp 60),28⟩,⟨some (58,false),some 62,.call ⟨.builtin .len,#[(.tmp 61)],#[28]⟩,3⟩,⟨some (58,false),some 63,.binOp .lss 3 (.tmp 59) (.tmp 62) 3,4⟩,⟨some (58,false),some 64,.move (.tmp 63),4⟩,⟨some (64,true),some 65,.fieldAddr 33 (.tmp 5) 1,0⟩,⟨some (64,true),some 66,.load 28 (.tmp 65),28⟩,⟨some (64,true),some 67,.move (.tmp 8),3⟩,⟨some (64,true),some 68,.indexAddr 28 (.tmp 66) (.tmp 67),0⟩,⟨some (64,true),some 69,.load 9 (.tmp 68),9⟩,⟨some (64,true),some 70,.fieldAddr 39 (.tmp 9) 0,0⟩,⟨some (64,true),some 71,.load 9 (.tmp 70),9⟩,⟨some (64,true),some 72,.binOp .neq 9 (.tmp 69) (.tmp 71) 9,4⟩,⟨some (58,false),some 73,.pick (.tmp 64) (.tmp 72) (.const (.bool false)),4⟩,oo 74 (.pick (.tmp 58) (.const (.bool true)) (.tmp 73)) 4]
def d3_53 : List (List Nat) := [[],[0],[1],[1],[3,1],[4,1],[2,5,1],[6,1,1],[7],[8,7],[7],[9,10,7],[11,7],[7],[13,7],[12,14,7],[7,15,1],[1,16]]
theorem e3_53 : rDrw c3_53 = some (o3_53,d3_53) := by kernel_rfl
theorem k3_53 : chkCs o3_53 d3_53 X3.fn.ntmps [] [[(0,false),(1,false),(2,false),(3,false),(4,false),(5,false),(6,false),(7,false),(8,false),(9,false),(10,false),(11,false),(12,false),(13,false),(14,false),(15,false),(16,false),(17,false)]] = true := by kernel_rfl
theorem m3_53 : chkM [0,1,2,3,4,5,6,7,8,9,10,11,12,13,14,15,16,17] [0,1,2,3,4,5,6,7,8,9,10,11,12,13,14,15,16,17] c3_53 = true := by kernel_rfl
def c3_54 := sB c3_52
def c3_55 := cT c3_54
def c3_56 := sA c3_55
theorem e3_56 : aI c3_56 = some [oo 2 (.assign (.const (.bool false))) 4] := by kernel_rfl
def c3_57 := sB c3_55
theorem e3_57 : c3_57 = .ret := by kernel_rfl
theorem e3_55 : c3_55 = .seq c3_56 c3_57 := by kernel_rfl
def c3_58 := cE c3_54
theorem e3_58 : c3_58 = .skip := by kernel_rfl
theorem e3_54 : c3_54 = .cond (.tmp 74) c3_55 c3_58 := by kernel_rfl
theorem e3_52 : c3_52 = .seq c3_53 c3_54 := by kernel_rfl
theorem e3_50 : c3_50 = .seq c3_51 c3_52 := by kernel_rfl
theorem e3_48 : c3_48 = .seq c3_49 c3_50 := by kernel_rfl
theorem e3_47 : c3_47 = .block 3 c3_48 := by kernel_rfl
def c3_59 := sB c3_46
theorem e3_59 : aI c3_59 = some [oo 75 (.binOp .add 3 (.tmp 43) (.const (.int .i64 1)) 3) 3,oo 43 (.move (.tmp 75)) 3] := by kernel_rfl
theorem e3_46 : c3_46 = .seq c3_47 c3_59 := by kernel_rfl
theorem e3_42 : c3_42 = .seq c3_43 c3_46 := by kernel_rfl
theorem e3_40 : c3_40 = .seq c3_41 c3_42 := by kernel_rfl
theorem e3_39 : c3_39 = .loop c3_40 := by kernel_rfl
theorem e3_38 : c3_38 = .block 2 c3_39 := by kernel_rfl
theorem e3_36 : c3_36 = .seq c3_37 c3_38 := by kernel_rfl
def c3_60 := sB c3_35
def c3_61 := sA c3_60
def o3_61 : List COp := [oo 76 (.fieldAddr 33 (.tmp 5) 0) 0,oo 77 (.load 9 (.tmp 76)) 9,oo 78 (.fieldAddr 33 (.tmp 5) 1) 0,oo 79 (.load 28 (.tmp 78)) 28,oo 80 (.build 31 (List.toArray [(2,(.tmp 77)),(3,(.tmp 79))])) 31,oo 81 (.buildSlice 29 1 (List.toArray [(0,(.tmp 80))])) 29,oo 82 (.fieldAddr 33 (.tmp 5) 2) 0,oo 83 (.load 31 (.tmp 82)) 31,oo 84 (.call ⟨.value (.func 12),(List.toArray [(.tmp 83)]),#[31]⟩) 29,oo 85 (.call ⟨.builtin .append,#[(.tmp 81),(.tmp 84)],#[29,29]⟩) 29,oo 86 (.call ⟨.builtin .len,#[(.tmp 85)],#[29]⟩) 3,oo 87 (.move (.const (.int .i64 0))) 3]
def d3_61 : List (List Nat) := [[],[0],[],[2],[1,3],[4],[],[6],[7],[5,8,8],[9],[]]
theorem e3_61 : rDrw c3_61 = some (o3_61,d3_61) := by kernel_rfl
theorem k3_61 : chkCs o3_61 d3_61 X3.fn.ntmps [5,8,9] [[(0,false),(1,false),(2,false),(3,false),(4,false),(6,false),(7,false),(11,false),(5,true),(8,true),(9,true),(10,false)],[(0,false),(1,false),(2,false),(3,false),(4,false),(6,false),(7,false),(11,false),(8,true),(5,true),(9,true),(10,false)]] = true := by kernel_rfl
theorem m3_61 : chkM [0,1,2,3,4,5,6,7,8,9,10,11] [0,1,2,3,4,5,6,7,8,9,10,11] c3_61 = true := by kernel_rfl
def c3_62 := sB c3_60
def c3_63 := bB c3_62
def c3_64 := bB c3_63
def c3_65 := sA c3_64
theorem e3_65 : aI c3_65 = some [oo 88 (.binOp .lss 3 (.tmp 87) (.tmp 86) 3) 0] := by kernel_rfl
def c3_66 := sB c3_64
def c3_67 := sA c3_66
def c3_68 := cT c3_67
theorem e3_68 : c3_68 = .skip := by kernel_rfl
def c3_69 := cE c3_67
theorem e3_69 : c3_69 = .exit 4 := by kernel_rfl
theorem e3_67 : c3_67 = .cond (.tmp 88) c3_68 c3_69 := by kernel_rfl
def c3_70 := sB c3_66
def c3_71 := sA c3_70
def c3_72 := bB c3_71
def c3_73 := sA c3_72
theorem e3_73 : aI c3_73 = some [oo 89 (.indexAddr 29 (.tmp 85) (.tmp 87)) 0,oo 90 (.load 31 (.tmp 89)) 31,oo 13 (.alloc 31) 0,⟨none,none,.store 31 (.tmp 13) (.tmp 90),0⟩] := by kernel_rfl
def c3_74 := sB c3_72
def c3_75 := sA c3_74
theorem e3_75 : aI c3_75 = some [oo 92 (.fieldAddr 31 (.tmp 13) 2) 0,oo 93 (.load 9 (.tmp 92)) 9,oo 94 (.fieldAddr 25 (.tmp 1) 0) 0,oo 95 (.load 22 (.tmp 94)) 22,oo 96 (.call ⟨.value (.func 13),(List.toArray [(.tmp 93),(.tmp 95)]),#[9,22]⟩) 46,oo 91 (.move (.tmp 96)) 46,oo 97 (.extract (.tmp 91) 0) 45,oo 98 (.extract (.tmp 91) 1) 4,oo 14 (.alloc 45) 0,⟨none,none,.store 45 (.tmp 14) (.tmp 97),0⟩,oo 15 (.assign (.tmp 98)) 4] := by kernel_rfl
def c3_76 := sB c3_74
def c3_77 := sA c3_76
def c3_78 := sA c3_77
theorem e3_78 : aI c3_78 = some [oo 99 (.move (.tmp 15)) 4,oo 100 (.unOp .not 4 (.tmp 99)) 4,oo 101 (.move (.tmp 100)) 4,⟨some (101,false),some 102,.fieldAddr 45 (.tmp 14) 1,0⟩,⟨some (101,false),some 103,.load 43 (.tmp 102),43⟩,⟨some (101,false),some 104,.call ⟨.builtin .len,#[(.tmp 103)],#[43]⟩,3⟩,⟨some (101,false),some 105,.fieldAddr 31 (.tmp 13) 3,0⟩,⟨some (101,false),some 106,.load 28 (.tmp 105),28⟩,⟨some (101,false),some 107,.call ⟨.builtin .len,#[(.tmp 106)],#[28]⟩,3⟩,⟨some (101,false),some 108,.binOp .neq 3 (.tmp 104) (.tmp 107) 3,4⟩,oo 109 (.pick (.tmp 101) (.const (.bool true)) (.tmp 108)) 4] := by kernel_rfl
def c3_79 := sB c3_77
def c3_80 := cT c3_79
def c3_81 := sA c3_80
theorem e3_81 : aI c3_81 = some [oo 2 (.assign (.const (.bool false))) 4] := by kernel_rfl
def c3_82 := sB c3_80
theorem e3_82 : c3_82 = .ret := by kernel_rfl
theorem e3_80 : c3_80 = .seq c3_81 c3_82 := by kernel_rfl
def c3_83 := cE c3_79
theorem e3_83 : c3_83 = .skip := by kernel_rfl
theorem e3_79 : c3_79 = .cond (.tmp 109) c3_80 c3_83 := by kernel_rfl
theorem e3_77 : c3_77 = .seq c3_78 c3_79 := by kernel_rfl
def c3_84 := sB c3_76
def c3_85 := sA c3_84
theorem e3_85 : aI c3_85 = some [oo 110 (.fieldAddr 31 (.tmp 13) 3) 0,oo 111 (.load 28 (.tmp 110)) 28,oo 112 (.call ⟨.builtin .len,#[(.tmp 111)],#[28]⟩) 3,oo 113 (.move (.const (.int .i64 0))) 3] := by kernel_rfl
def c3_86 := sB c3_84
def c3_87 := bB c3_86
def c3_88 := bB c3_87
def c3_89 := sA c3_88
theorem e3_89 : aI c3_89 = some [oo 114 (.binOp .lss 3 (.tmp 113) (.tmp 112) 3) 0] := by kernel_rfl
def c3_90 := sB c3_88
def c3_91 := sA c3_90
def c3_92 := cT c3_91
theorem e3_92 : c3_92 = .skip := by kernel_rfl
def c3_93 := cE c3_91
theorem e3_93 : c3_93 = .exit 6 := by kernel_rfl
theorem e3_91 : c3_91 = .cond (.tmp 114) c3_92 c3_93 := by kernel_rfl
def c3_94 := sB c3_90
def c3_95 := sA c3_94
def c3_96 := bB c3_95
def c3_97 := sA c3_96
theorem e3_97 : aI c3_97 = some [oo 115 (.move (.tmp 113)) 3,oo 116 (.indexAddr 28 (.tmp 111) (.tmp 113)) 0,oo 117 (.load 9 (.tmp 116)) 9,oo 16 (.assign (.tmp 115)) 3,oo 17 (.assign (.tmp 117)) 9] := by kernel_rfl
def c3_98 := sB c3_96
def c3_99 := sA c3_98
theorem e3_99 : aI c3_99 = some [oo 119 (.move (.tmp 6)) 34,oo 120 (.move (.tmp 17)) 9,oo 121 (.call ⟨.value (.func 11),(List.toArray [(.tmp 119),(.tmp 120)]),#[34,9]⟩) 40,oo 118 (.move (.tmp 121)) 40,oo 122 (.extract (.tmp 118) 0) 3,oo 123 (.extract (.tmp 118) 1) 4,oo 18 (.assign (.tmp 122)) 3,oo 19 (.assign (.tmp 123)) 4] := by kernel_rfl
def c3_100 := sB c3_98
def c3_101 := sA c3_100
theorem e3_101 : aI c3_101 = some [oo 124 (.move (.tmp 19)) 4,oo 125 (.unOp .not 4 (.tmp 124)) 4,oo 126 (.move (.tmp 125)) 4,⟨some (126,false),some 127,.move (.tmp 18),3⟩,⟨some (126,false),some 128,.fieldAddr 45 (.tmp 14) 1,0⟩,⟨some (126,false),some 129,.load 43 (.tmp 128),43⟩,⟨some (126,false),some 130,.move (.tmp 16),3⟩,⟨some (126,false),some 131,.indexAddr 43 (.tmp 129) (.tmp 130),0⟩,⟨some (126,false),some 132,.load 3 (.tmp 131),3⟩,⟨some (126,false),some 133,.binOp .neq 3 (.tmp 127) (.tmp 132) 3,4⟩,oo 134 (.pick (.tmp 126) (.const (.bool true)) (.tmp 133)) 4] := by kernel_rfl
def c3_102 := sB c3_100
def c3_103 := cT c3_102
def c3_104 := sA c3_103
theorem e3_104 : aI c3_104 = some [oo 2 (.assign (.const (.bool false))) 4] := by kernel_rfl
def c3_105 := sB c3_103
theorem e3_105 : c3_105 = .ret := by kernel_rfl
theorem e3_103 : c3_103 = .seq c3_104 c3_105 := by kernel_rfl
def c3_106 := cE c3_102
theorem e3_106 : c3_106 = .skip := by kernel_rfl
theorem e3_102 : c3_102 = .cond (.tmp 134) c3_103 c3_106 := by kernel_rfl
theorem e3_100 : c3_100 = .seq c3_101 c3_102 := by kernel_rfl
theorem e3_98 : c3_98 = .seq c3_99 c3_100 := by kernel_rfl
theorem e3_96 : c3_96 = .seq c3_97 c3_98 := by kernel_rfl
theorem e3_95 : c3_95 = .block 7 c3_96 := by kernel_rfl
def c3_107 := sB c3_94
theorem e3_107 : aI c3_107 = some [oo 135 (.binOp .add 3 (.tmp 113) (.const (.int .i64 1)) 3) 3,oo 113 (.move (.tmp 135)) 3] := by kernel_rfl
theorem e3_94 : c3_94 = .seq c3_95 c3_107 := by kernel_rfl
theorem e3_90 : c3_90 = .seq c3_91 c3_94 := by kernel_rfl
theorem e3_88 : c3_88 = .seq c3_89 c3_90 := by kernel_rfl
theorem e3_87 : c3_87 = .loop c3_88 := by kernel_rfl
theorem e3_86 : c3_86 = .block 6 c3_87 := by kernel_rfl
theorem e3_84 : c3_84 = .seq c3_85 c3_86 := by kernel_rfl
theorem e3_76 : c3_76 = .seq c3_77 c3_84 := by kernel_rfl
theorem e3_74 : c3_74 = .seq c3_75 c3_76 := by kernel_rfl
theorem e3_72 : c3_72 = .seq c3_73 c3_74 := by kernel_rfl
theorem e3_71 : c3_71 = .block 5 c3_72 := by kernel_rfl
def c3_108 := sB c3_70
theorem e3_108 : aI c3_108 = some [oo 136 (.binOp .add 3 (.tmp 87) (.const (.int .i64 1)) 3) 3,oo 87 (.move (.tmp 136)) 3] := by kernel_rfl
theorem e3_70 : c3_70 = .seq c3_71 c3_108 := by kernel_rfl
theorem e3_66 : c3_66 = .seq c3_67 c3_70 := by kernel_rfl
theorem e3_64 : c3_64 = .seq c3_65 c3_66 := by kernel_rfl
theorem e3_63 : c3_63 = .loop c3_64 := by kernel_rfl
theorem e3_62 : c3_62 = .block 4 c3_63 := by kernel_rfl
theorem e3_60 : c3_60 = .seq c3_61 c3_62 := by kernel_rfl
theorem e3_35 : c3_35 = .seq c3_36 c3_60 := by kernel_rfl
theorem e3_29 : c3_29 = .seq c3_30 c3_35 := by kernel_rfl
theorem e3_27 : c3_27 = .seq c3_28 c3_29 := by kernel_rfl
theorem e3_25 : c3_25 = .seq c3_26 c3_27 := by kernel_rfl
theorem e3_24 : c3_24 = .block 1 c3_25 := by kernel_rfl
def c3_109 := sB c3_23
theorem e3_109 : aI c3_109 = some [oo 137 (.binOp .add 3 (.tmp 28) (.const (.int .i64 1)) 3) 3,oo 28 (.move (.tmp 137)) 3] := by kernel_rfl
theorem e3_23 : c3_23 = .seq c3_24 c3_109 := by kernel_rfl
theorem e3_19 : c3_19 = .seq c3_20 c3_23 := by kernel_rfl
theorem e3_17 : c3_17 = .seq c3_18 c3_19 := by kernel_rfl
theorem e3_16 : c3_16 = .loop c3_17 := by kernel_rfl
theorem e3_15 : c3_15 = .block 0 c3_16 := by kernel_rfl
theorem e3_13 : c3_13 = .seq c3_14 c3_15 := by kernel_rfl
def c3_110 := sB c3_12
def c3_111 := sA c3_110
theorem e3_111 : aI c3_111 = some [oo 138 (.move (.tmp 3)) 4,oo 2 (.assign (.tmp 138)) 4] := by kernel_rfl
def c3_112 := sB c3_110
theorem e3_112 : c3_112 = .ret := by kernel_rfl
theorem e3_110 : c3_110 = .seq c3_111 c3_112 := by kernel_rfl
theorem e3_12 : c3_12 = .seq c3_13 c3_110 := by kernel_rfl
theorem e3_4 : c3_4 = .seq c3_5 c3_12 := by kernel_rfl
theorem e3_2 : c3_2 = .seq c3_3 c3_4 := by kernel_rfl
theorem e3_0 : c3_0 = .seq c3_1 c3_2 := by kernel_rfl
def c4_0 := cK Try.f4
def c4_1 := sA c4_0
theorem e4_1 : aI c4_1 = some [oo 2 (.box 25 (.tmp 0)) 0,oo 4 (.assign (.const (.bool false))) 4] := by kernel_rfl
def c4_2 := sB c4_0
theorem e4_0 : c4_0 = .seq c4_1 c4_2 := by kernel_rfl
def c8_0 := cK Try.f8
def c8_1 := sA c8_0
theorem e8_1 : aI c8_1 = some [oo 0 (.assign (.const (.bool false))) 4] := by kernel_rfl
def c8_2 := sB c8_0
def c8_3 := sA c8_2
theorem e8_3 : aI c8_3 = some [oo 9 (.call ⟨.value (.func 24),(List.toArray [(.const (.string ⟨#[116,101,110,115,111,114,32,97,91,50,93,58,32,100,101,110,115,101,10,116,101,110,115,111,114,32,98,91,50,44,51,93,58,32,99,115,114,10,116,101,110,115,111,114,32,99,91,51,93,58,32,99,115,102,10,97,91,105,93,32,61,32,98,91,105,44,32,107,93,32,42,32,99,91,107,93,32,43,32,97,91,105,93]⟩))]),#[9]⟩) 65,oo 8 (.move (.tmp 9)) 65,oo 10 (.extract (.tmp 8) 0) 25,oo 11 (.extract (.tmp 8) 1) 3,oo 12 (.extract (.tmp 8) 2) 35,oo 1 (.alloc 25) 0,⟨none,none,.store 25 (.tmp 1) (.tmp 10),0⟩,oo 2 (.assign (.tmp 11)) 3,oo 3 (.assign (.tmp 12)) 35] := by kernel_rfl
def c8_4 := sB c8_2
def c8_5 := sA c8_4
def c8_6 := sA c8_5
theorem e8_6 : aI c8_6 = some [oo 13 (.move (.tmp 3)) 35,oo 14 (.binOp .neq 35 (.tmp 13) (.const (.int .i64 0)) 35) 4,oo 15 (.move (.tmp 14)) 4,⟨some (15,false),some 16,.fieldAddr 25 (.tmp 1) 1,0⟩,⟨some (15,false),some 17,.load 23 (.tmp 16),23⟩,⟨some (15,false),some 18,.call ⟨.builtin .len,#[(.tmp 17)],#[23]⟩,3⟩,⟨some (15,false),some 19,.binOp .neq 3 (.tmp 18) (.const (.int .i64 1)) 3,4⟩,oo 20 (.pick (.tmp 15) (.const (.bool true)) (.tmp 19)) 4] := by kernel_rfl
def c8_7 := sB c8_5
def c8_8 := cT c8_7
def c8_9 := sA c8_8
theorem e8_9 : aI c8_9 = some [oo 0 (.assign (.const (.bool false))) 4] := by kernel_rfl
def c8_10 := sB c8_8
theorem e8_10 : c8_10 = .ret := by kernel_rfl
theorem e8_8 : c8_8 = .seq c8_9 c8_10 := by kernel_rfl
def c8_11 := cE c8_7
theorem e8_11 : c8_11 = .skip := by kernel_rfl
theorem e8_7 : c8_7 = .cond (.tmp 20) c8_8 c8_11 := by kernel_rfl
theorem e8_5 : c8_5 = .seq c8_6 c8_7 := by kernel_rfl
def c8_12 := sB c8_4
def c8_13 := sA c8_12
theorem e8_13 : aI c8_13 = some [oo 22 (.fieldAddr 25 (.tmp 1) 1) 0,oo 23 (.load 23 (.tmp 22)) 23,oo 24 (.indexAddr 23 (.tmp 23) (.const (.int .i64 0))) 0,oo 25 (.load 33 (.tmp 24)) 33,oo 26 (.call ⟨.value (.func 17),(List.toArray [(.tmp 25)]),#[33]⟩) 54,oo 21 (.move (.tmp 26)) 54,oo 27 (.extract (.tmp 21) 0) 31,oo 28 (.extract (.tmp 21) 1) 35,oo 4 (.alloc 31) 0,⟨none,none,.store 31 (.tmp 4) (.tmp 27),0⟩,oo 5 (.assign (.tmp 28)) 35] := by kernel_rfl
def c8_14 := sB c8_12
def c8_15 := sA c8_14
theorem e8_15 : aI c8_15 = some [oo 30 (.load 25 (.tmp 1)) 25,oo 31 (.call ⟨.value (.func 14),(List.toArray [(.tmp 30)]),#[25]⟩) 48,oo 29 (.move (.tmp 31)) 48,oo 32 (.extract (.tmp 29) 0) 3,oo 33 (.extract (.tmp 29) 1) 35,oo 6 (.assign (.tmp 32)) 3,oo 7 (.assign (.tmp 33)) 35] := by kernel_rfl
def c8_16 := sB c8_14
def c8_17 := sA c8_16
theorem e8_17 : aI c8_17 = some [oo 34 (.move (.tmp 5)) 35,oo 35 (.binOp .eql 35 (.tmp 34) (.const (.int .i64 0)) 35) 4,oo 36 (.move (.tmp 35)) 4,⟨some (36,true),some 37,.fieldAddr 31 (.tmp 4) 0,0⟩,⟨some (36,true),some 38,.load 3 (.tmp 37),3⟩,⟨some (36,true),some 39,.binOp .eql 3 (.tmp 38) (.const (.int .i64 3)) 3,4⟩,oo 40 (.pick (.tmp 36) (.tmp 39) (.const (.bool false))) 4,oo 41 (.move (.tmp 40)) 4,⟨some (41,true),some 42,.fieldAddr 31 (.tmp 4) 4,0⟩,⟨some (41,true),some 43,.load 29 (.tmp 42),29⟩,⟨some (41,true),some 44,.call ⟨.builtin .len,#[(.tmp 43)],#[29]⟩,3⟩,⟨some (41,true),some 45,.binOp .eql 3 (.tmp 44) (.const (.int .i64 2)) 3,4⟩,oo 46 (.pick (.tmp 41) (.tmp 45) (.const (.bool false))) 4,oo 47 (.move (.tmp 46)) 4,⟨some (47,true),some 48,.fieldAddr 31 (.tmp 4) 4,0⟩,⟨some (47,true),some 49,.load 29 (.tmp 48),29⟩,⟨some (47,true),some 50,.indexAddr 29 (.tmp 49) (.const (.int .i64 0)),0⟩,⟨some (47,true),some 51,.fieldAddr 31 (.tmp 50) 0,0⟩,⟨some (47,true),some 52,.load 3 (.tmp 51),3⟩,⟨some (47,true),some 53,.binOp .eql 3 (.tmp 52) (.const (.int .i64 7)) 3,4⟩,oo 54 (.pick (.tmp 47) (.tmp 53) (.const (.bool false))) 4,oo 55 (.move (.tmp 54)) 4,⟨some (55,true),some 56,.fieldAddr 31 (.tmp 4) 4,0⟩,⟨some (55,true),some 57,.load 29 (.tmp 56),29⟩,⟨some (55,true),some 58,.indexAddr 29 (.tmp 57) (.const (.int .i64 0)),0⟩,⟨some (55,true),some 59,.fieldAddr 31 (.tmp 58) 2,0⟩,⟨some (55,true),some 60,.load 9 (.tmp 59),9⟩,⟨some (55,true),some 61,.binOp .eql 9 (.tmp 60) (.const (.string ⟨#[107]⟩)) 9,4⟩,oo 62 (.pick (.tmp 55) (.tmp 61) (.const (.bool false))) 4,oo 63 (.move (.tmp 62)) 4,⟨some (63,true),some 64,.fieldAddr 31 (.tmp 4) 4,0⟩,⟨some (63,true),some 65,.load 29 (.tmp 64),29⟩,⟨some (63,true),some 66,.indexAddr 29 (.tmp 65) (.const (.int .i64 1)),0⟩,⟨some (63,true),some 67,.fieldAddr 31 (.tmp 66) 0,0⟩,⟨some (63,true),some 68,.load 3 (.tmp 67),3⟩,⟨some (63,true),some 69,.binOp .eql 3 (.tmp 68) (.const (.int .i64 2)) 3,4⟩,oo 70 (.pick (.tmp 63) (.tmp 69) (.const (.bool false))) 4,oo 71 (.move (.tmp 70)) 4,⟨some (71,true),some 72,.move (.tmp 6),3⟩,⟨some (71,true),some 73,.binOp .eql 3 (.tmp 72) (.const (.int .i64 4)) 3,4⟩,oo 74 (.pick (.tmp 71) (.tmp 73) (.const (.bool false))) 4,oo 75 (.move (.tmp 74)) 4,⟨some (75,true),some 76,.move (.tmp 7),35⟩,⟨some (75,true),some 77,.binOp .eql 35 (.tmp 76) (.const (.int .i64 0)) 35,4⟩,oo 78 (.pick (.tmp 75) (.tmp 77) (.const (.bool false))) 4,oo 0 (.assign (.tmp 78)) 4] := by kernel_rfl
def c8_18 := sB c8_16
theorem e8_18 : c8_18 = .ret := by kernel_rfl
theorem e8_16 : c8_16 = .seq c8_17 c8_18 := by kernel_rfl
theorem e8_14 : c8_14 = .seq c8_15 c8_16 := by kernel_rfl
theorem e8_12 : c8_12 = .seq c8_13 c8_14 := by kernel_rfl
theorem e8_4 : c8_4 = .seq c8_5 c8_12 := by kernel_rfl
theorem e8_2 : c8_2 = .seq c8_3 c8_4 := by kernel_rfl
theorem e8_0 : c8_0 = .seq c8_1 c8_2 := by kernel_rfl
def c9_0 := cK Try.f9
def c9_1 := sA c9_0
theorem e9_1 : aI c9_1 = some [oo 1 (.box 25 (.tmp 0)) 0,oo 2 (.assign (.const (.bool false))) 4] := by kernel_rfl
def c9_2 := sB c9_0
def c9_3 := sA c9_2
def c9_4 := sA c9_3
theorem e9_4 : aI c9_4 = some [oo 9 (.fieldAddr 25 (.tmp 1) 0) 0,oo 10 (.load 22 (.tmp 9)) 22,oo 11 (.call ⟨.builtin .len,#[(.tmp 10)],#[22]⟩) 3,oo 12 (.move (.const (.int .i64 0))) 3] := by kernel_rfl
def c9_5 := sB c9_3
def c9_6 := bB c9_5
def c9_7 := bB c9_6
def c9_8 := sA c9_7
theorem e9_8 : aI c9_8 = some [oo 13 (.binOp .lss 3 (.tmp 12) (.tmp 11) 3) 0] := by kernel_rfl
def c9_9 := sB c9_7
def c9_10 := sA c9_9
def c9_11 := cT c9_10
theorem e9_11 : c9_11 = .skip := by kernel_rfl
def c9_12 := cE c9_10
theorem e9_12 : c9_12 = .exit 0 := by kernel_rfl
theorem e9_10 : c9_10 = .cond (.tmp 13) c9_11 c9_12 := by kernel_rfl
def c9_13 := sB c9_9
def c9_14 := sA c9_13
def c9_15 := bB c9_14
def c9_16 := sA c9_15
theorem e9_16 : aI c9_16 = some [oo 14 (.indexAddr 22 (.tmp 10) (.tmp 12)) 0,oo 15 (.load 45 (.tmp 14)) 45,oo 4 (.alloc 45) 0,⟨none,none,.store 45 (.tmp 4) (.tmp 15),0⟩] := by kernel_rfl
def c9_17 := sB c9_15
def c9_18 := sA c9_17
theorem e9_18 : aI c9_18 = some [oo 16 (.fieldAddr 45 (.tmp 4) 1) 0,oo 17 (.load 43 (.tmp 16)) 43,oo 18 (.call ⟨.builtin .len,#[(.tmp 17)],#[43]⟩) 3,oo 19 (.binOp .gtr 3 (.tmp 18) (.const (.int .i64 20)) 3) 4,oo 20 (.move (.tmp 19)) 4,⟨some (20,false),some 21,.fieldAddr 45 (.tmp 4) 0,0⟩,⟨some (20,false),some 22,.load 9 (.tmp 21),9⟩,⟨some (20,false),some 23,.call ⟨.builtin .len,#[(.tmp 22)],#[9]⟩,3⟩,⟨some (20,false),some 24,.fieldAddr 45 (.tmp 4) 2,0⟩,⟨some (20,false),some 25,.load 9 (.tmp 24),9⟩,⟨some (20,false),some 26,.call ⟨.builtin .len,#[(.tmp 25)],#[9]⟩,3⟩,⟨some (20,false),some 27,.binOp .add 3 (.tmp 23) (.tmp 26) 3,3⟩,⟨some (20,false),some 28,.binOp .gtr 3 (.tmp 27) (.const (.int .i64 200)) 3,4⟩,oo 29 (.pick (.tmp 20) (.const (.bool true)) (.tmp 28)) 4] := by kernel_rfl
def c9_19 := sB c9_17
def c9_20 := cT c9_19
def c9_21 := sA c9_20
theorem e9_21 : aI c9_21 = some [oo 2 (.assign (.const (.bool false))) 4] := by kernel_rfl
def c9_22 := sB c9_20
theorem e9_22 : c9_22 = .ret := by kernel_rfl
theorem e9_20 : c9_20 = .seq c9_21 c9_22 := by kernel_rfl
def c9_23 := cE c9_19
theorem e9_23 : c9_23 = .skip := by kernel_rfl
theorem e9_19 : c9_19 = .cond (.tmp 29) c9_20 c9_23 := by kernel_rfl
theorem e9_17 : c9_17 = .seq c9_18 c9_19 := by kernel_rfl
theorem e9_15 : c9_15 = .seq c9_16 c9_17 := by kernel_rfl
theorem e9_14 : c9_14 = .block 1 c9_15 := by kernel_rfl
def c9_24 := sB c9_13
theorem e9_24 : aI c9_24 = some [oo 30 (.binOp .add 3 (.tmp 12) (.const (.int .i64 1)) 3) 3,oo 12 (.move (.tmp 30)) 3] := by kernel_rfl
theorem e9_13 : c9_13 = .seq c9_14 c9_24 := by kernel_rfl
theorem e9_9 : c9_9 = .seq c9_10 c9_13 := by kernel_rfl
theorem e9_7 : c9_7 = .seq c9_8 c9_9 := by kernel_rfl
theorem e9_6 : c9_6 = .loop c9_7 := by kernel_rfl
theorem e9_5 : c9_5 = .block 0 c9_6 := by kernel_rfl
theorem e9_3 : c9_3 = .seq c9_4 c9_5 := by kernel_rfl
def c9_25 := sB c9_2
def c9_26 := sA c9_25
def c9_27 := sA c9_26
theorem e9_27 : aI c9_27 = some [oo 31 (.fieldAddr 25 (.tmp 1) 1) 0,oo 32 (.load 23 (.tmp 31)) 23,oo 33 (.call ⟨.builtin .len,#[(.tmp 32)],#[23]⟩) 3,oo 34 (.move (.const (.int .i64 0))) 3] := by kernel_rfl
def c9_28 := sB c9_26
def c9_29 := bB c9_28
def c9_30 := bB c9_29
def c9_31 := sA c9_30
theorem e9_31 : aI c9_31 = some [oo 35 (.binOp .lss 3 (.tmp 34) (.tmp 33) 3) 0] := by kernel_rfl
def c9_32 := sB c9_30
def c9_33 := sA c9_32
def c9_34 := cT c9_33
theorem e9_34 : c9_34 = .skip := by kernel_rfl
def c9_35 := cE c9_33
theorem e9_35 : c9_35 = .exit 2 := by kernel_rfl
theorem e9_33 : c9_33 = .cond (.tmp 35) c9_34 c9_35 := by kernel_rfl
def c9_36 := sB c9_32
def c9_37 := sA c9_36
def c9_38 := bB c9_37
def c9_39 := sA c9_38
theorem e9_39 : aI c9_39 = some [oo 36 (.indexAddr 23 (.tmp 32) (.tmp 34)) 0,oo 37 (.load 33 (.tmp 36)) 33,oo 6 (.alloc 33) 0,⟨none,none,.store 33 (.tmp 6) (.tmp 37),0⟩] := by kernel_rfl
def c9_40 := sB c9_38
def c9_41 := sA c9_40
def c9_42 := sA c9_41
theorem e9_42 : aI c9_42 = some [oo 38 (.fieldAddr 33 (.tmp 6) 2) 0,oo 39 (.load 31 (.tmp 38)) 31,oo 40 (.call ⟨.value (.func 25),(List.toArray [(.tmp 39),(.const (.int .i64 20))]),#[31,3]⟩) 4,oo 41 (.unOp .not 4 (.tmp 40)) 4,oo 42 (.move (.tmp 41)) 4,⟨some (42,false),some 43,.fieldAddr 33 (.tmp 6) 1,0⟩,⟨some (42,false),some 44,.load 28 (.tmp 43),28⟩,⟨some (42,false),some 45,.call ⟨.builtin .len,#[(.tmp 44)],#[28]⟩,3⟩,⟨some (42,false),some 46,.binOp .gtr 3 (.tmp 45) (.const (.int .i64 20)) 3,4⟩,oo 47 (.pick (.tmp 42) (.const (.bool true)) (.tmp 46)) 4,oo 48 (.move (.tmp 47)) 4,⟨some (48,false),some 49,.fieldAddr 33 (.tmp 6) 0,0⟩,⟨some (48,false),some 50,.load 9 (.tmp 49),9⟩,⟨some (48,false),some 51,.call ⟨.builtin .len,#[(.tmp 50)],#[9]⟩,3⟩,⟨some (48,false),some 52,.binOp .gtr 3 (.tmp 51) (.const (.int .i64 100)) 3,4⟩,oo 53 (.pick (.tmp 48) (.const (.bool true)) (.tmp 52)) 4] := by kernel_rfl
def c9_43 := sB c9_41
def c9_44 := cT c9_43
def c9_45 := sA c9_44
theorem e9_45 : aI c9_45 = some [oo 2 (.assign (.const (.bool false))) 4] := by kernel_rfl
def c9_46 := sB c9_44
theorem e9_46 : c9_46 = .ret := by kernel_rfl
theorem e9_44 : c9_44 = .seq c9_45 c9_46 := by kernel_rfl
def c9_47 := cE c9_43
theorem e9_47 : c9_47 = .skip := by kernel_rfl
theorem e9_43 : c9_43 = .cond (.tmp 53) c9_44 c9_47 := by kernel_rfl
theorem e9_41 : c9_41 = .seq c9_42 c9_43 := by kernel_rfl
def c9_48 := sB c9_40
def c9_49 := sA c9_48
theorem e9_49 : aI c9_49 = some [oo 54 (.fieldAddr 33 (.tmp 6) 1) 0,oo 55 (.load 28 (.tmp 54)) 28,oo 56 (.call ⟨.builtin .len,#[(.tmp 55)],#[28]⟩) 3,oo 57 (.move (.const (.int .i64 0))) 3] := by kernel_rfl
def c9_50 := sB c9_48
def c9_51 := bB c9_50
def c9_52 := bB c9_51
def c9_53 := sA c9_52
theorem e9_53 : aI c9_53 = some [oo 58 (.binOp .lss 3 (.tmp 57) (.tmp 56) 3) 0] := by kernel_rfl
def c9_54 := sB c9_52
def c9_55 := sA c9_54
def c9_56 := cT c9_55
theorem e9_56 : c9_56 = .skip := by kernel_rfl
def c9_57 := cE c9_55
theorem e9_57 : c9_57 = .exit 4 := by kernel_rfl
theorem e9_55 : c9_55 = .cond (.tmp 58) c9_56 c9_57 := by kernel_rfl
def c9_58 := sB c9_54
def c9_59 := sA c9_58
def c9_60 := bB c9_59
def c9_61 := sA c9_60
theorem e9_61 : aI c9_61 = some [oo 59 (.indexAddr 28 (.tmp 55) (.tmp 57)) 0,oo 60 (.load 9 (.tmp 59)) 9,oo 8 (.assign (.tmp 60)) 9] := by kernel_rfl
def c9_62 := sB c9_60
def c9_63 := sA c9_62
theorem e9_63 : aI c9_63 = some [oo 61 (.move (.tmp 8)) 9,oo 62 (.call ⟨.builtin .len,#[(.tmp 61)],#[9]⟩) 3,oo 63 (.binOp .gtr 3 (.tmp 62) (.const (.int .i64 100)) 3) 4] := by kernel_rfl
def c9_64 := sB c9_62
def c9_65 := cT c9_64
def c9_66 := sA c9_65
theorem e9_66 : aI c9_66 = some [oo 2 (.assign (.const (.bool false))) 4] := by kernel_rfl
def c9_67 := sB c9_65
theorem e9_67 : c9_67 = .ret := by kernel_rfl
theorem e9_65 : c9_65 = .seq c9_66 c9_67 := by kernel_rfl
def c9_68 := cE c9_64
theorem e9_68 : c9_68 = .skip := by kernel_rfl
theorem e9_64 : c9_64 = .cond (.tmp 63) c9_65 c9_68 := by kernel_rfl
theorem e9_62 : c9_62 = .seq c9_63 c9_64 := by kernel_rfl
theorem e9_60 : c9_60 = .seq c9_61 c9_62 := by kernel_rfl
theorem e9_59 : c9_59 = .block 5 c9_60 := by kernel_rfl
def c9_69 := sB c9_58
theorem e9_69 : aI c9_69 = some [oo 64 (.binOp .add 3 (.tmp 57) (.const (.int .i64 1)) 3) 3,oo 57 (.move (.tmp 64)) 3] := by kernel_rfl
theorem e9_58 : c9_58 = .seq c9_59 c9_69 := by kernel_rfl
theorem e9_54 : c9_54 = .seq c9_55 c9_58 := by kernel_rfl
theorem e9_52 : c9_52 = .seq c9_53 c9_54 := by kernel_rfl
theorem e9_51 : c9_51 = .loop c9_52 := by kernel_rfl
theorem e9_50 : c9_50 = .block 4 c9_51 := by kernel_rfl
theorem e9_48 : c9_48 = .seq c9_49 c9_50 := by kernel_rfl
theorem e9_40 : c9_40 = .seq c9_41 c9_48 := by kernel_rfl
theorem e9_38 : c9_38 = .seq c9_39 c9_40 := by kernel_rfl
theorem e9_37 : c9_37 = .block 3 c9_38 := by kernel_rfl
def c9_70 := sB c9_36
theorem e9_70 : aI c9_70 = some [oo 65 (.binOp .add 3 (.tmp 34) (.const (.int .i64 1)) 3) 3,oo 34 (.move (.tmp 65)) 3] := by kernel_rfl
theorem e9_36 : c9_36 = .seq c9_37 c9_70 := by kernel_rfl
theorem e9_32 : c9_32 = .seq c9_33 c9_36 := by kernel_rfl
theorem e9_30 : c9_30 = .seq c9_31 c9_32 := by kernel_rfl
theorem e9_29 : c9_29 = .loop c9_30 := by kernel_rfl
theorem e9_28 : c9_28 = .block 2 c9_29 := by kernel_rfl
theorem e9_26 : c9_26 = .seq c9_27 c9_28 := by kernel_rfl
def c9_71 := sB c9_25
def c9_72 := sA c9_71
theorem e9_72 : aI c9_72 = some [oo 66 (.fieldAddr 25 (.tmp 1) 0) 0,oo 67 (.load 22 (.tmp 66)) 22,oo 68 (.call ⟨.builtin .len,#[(.tmp 67)],#[22]⟩) 3,oo 69 (.binOp .leq 3 (.tmp 68) (.const (.int .i64 40)) 3) 4,oo 70 (.move (.tmp 69)) 4,⟨some (70,true),some 71,.fieldAddr 25 (.tmp 1) 1,0⟩,⟨some (70,true),some 72,.load 23 (.tmp 71),23⟩,⟨some (70,true),some 73,.call ⟨.builtin .len,#[(.tmp 72)],#[23]⟩,3⟩,⟨some (70,true),some 74,.binOp .leq 3 (.tmp 73) (.const (.int .i64 40)) 3,4⟩,oo 75 (.pick (.tmp 70) (.tmp 74) (.const (.bool false))) 4,oo 2 (.assign (.tmp 75)) 4] := by kernel_rfl
def c9_73 := sB c9_71
theorem e9_73 : c9_73 = .ret := by kernel_rfl
theorem e9_71 : c9_71 = .seq c9_72 c9_73 := by kernel_rfl
theorem e9_25 : c9_25 = .seq c9_26 c9_71 := by kernel_rfl
theorem e9_2 : c9_2 = .seq c9_3 c9_25 := by kernel_rfl
theorem e9_0 : c9_0 = .seq c9_1 c9_2 := by kernel_rfl
def c10_0 := cK Try.f10
def c10_1 := sA c10_0
theorem e10_1 : aI c10_1 = some [oo 2 (.box 33 (.tmp 0)) 0,oo 4 (.assign (.const (.slice none 0 0))) 34,oo 5 (.assign (.const (.int .i64 0))) 35] := by kernel_rfl
def c10_2 := sB c10_0
def c10_3 := sA c10_2
def c10_4 := sA c10_3
theorem e10_4 : aI c10_4 = some [oo 17 (.move (.tmp 1)) 22,oo 18 (.call ⟨.value (.func 15),(List.toArray [(.tmp 17)]),#[22]⟩) 48,oo 16 (.move (.tmp 18)) 48,oo 19 (.extract (.tmp 16) 0) 3,oo 20 (.extract (.tmp 16) 1) 35,oo 6 (.assign (.tmp 19)) 3,oo 7 (.assign (.tmp 20)) 35] := by kernel_rfl
def c10_5 := sB c10_3
def c10_6 := sA c10_5
theorem e10_6 : aI c10_6 = some [oo 21 (.move (.tmp 7)) 35,oo 22 (.binOp .neq 35 (.tmp 21) (.const (.int .i64 0)) 35) 4,oo 23 (.move (.tmp 22)) 4,⟨some (23,false),some 24,.load 33 (.tmp 2),33⟩,⟨some (23,false),some 25,.buildSlice 23 1 (List.toArray [(0,(.tmp 24))]),23⟩,⟨some (23,false),some 26,.build 25 (List.toArray [(1,(.tmp 25))]),25⟩,⟨some (23,false),some 27,.call ⟨.value (.func 26),(List.toArray [(.tmp 26)]),#[25]⟩,35⟩,⟨some (23,false),some 28,.binOp .neq 35 (.tmp 27) (.const (.int .i64 0)) 35,4⟩,oo 29 (.pick (.tmp 23) (.const (.bool true)) (.tmp 28)) 4] := by kernel_rfl
def c10_7 := sB c10_5
def c10_8 := cT c10_7
def c10_9 := sA c10_8
theorem e10_9 : aI c10_9 = some [oo 4 (.assign (.const (.slice none 0 0))) 34,oo 5 (.assign (.const (.int .i64 1))) 35] := by kernel_rfl
def c10_10 := sB c10_8
theorem e10_10 : c10_10 = .ret := by kernel_rfl
theorem e10_8 : c10_8 = .seq c10_9 c10_10 := by kernel_rfl
def c10_11 := cE c10_7
theorem e10_11 : c10_11 = .skip := by kernel_rfl
theorem e10_7 : c10_7 = .cond (.tmp 29) c10_8 c10_11 := by kernel_rfl
theorem e10_5 : c10_5 = .seq c10_6 c10_7 := by kernel_rfl
theorem e10_3 : c10_3 = .seq c10_4 c10_5 := by kernel_rfl
def c10_12 := sB c10_2
def c10_13 := sA c10_12
theorem e10_13 : aI c10_13 = some [oo 30 (.move (.tmp 1)) 22,oo 31 (.build 72 (List.toArray [(0,(.tmp 30))])) 72,oo 32 (.box 72 (.tmp 31)) 69,oo 8 (.assign (.tmp 32)) 69] := by kernel_rfl
def c10_14 := sB c10_12
def c10_15 := sA c10_14
def c10_16 := sA c10_15
def o10_16 : List COp := [oo 34 (.move (.tmp 8)) 69,oo 35 (.nilCheck (.tmp 34)) 0,oo 36 (.fieldAddr 72 (.tmp 35) 0) 0,oo 37 (.load 70 (.tmp 36)) 70,oo 38 (.fieldAddr 33 (.tmp 2) 0) 0,oo 39 (.load 9 (.tmp 38)) 9,oo 40 (.fieldAddr 33 (.tmp 2) 1) 0,oo 41 (.load 28 (.tmp 40)) 28,oo 42 (.call ⟨.value (.func 27),(List.toArray [(.tmp 37),(.tmp 39),(.tmp 41)]),#[70,9,28]⟩) 73,oo 33 (.move (.tmp 42)) 73,oo 43 (.extract (.tmp 33) 0) 43,oo 44 (.extract (.tmp 33) 1) 35,oo 9 (.assign (.tmp 43)) 43,oo 10 (.assign (.tmp 44)) 35]
def d10_16 : List (List Nat) := [[],[0],[1],[2],[],[4],[],[6],[3,5,7],[8],[9],[9],[10,8,0,1,2,3,4,5,6,7,8,9,10],[11,12,0,1,2,3,4,5,6,7,8,9,10,11,12]]
theorem e10_16 : rDrw c10_16 = some (o10_16,d10_16) := by kernel_rfl
theorem k10_16 : chkCs o10_16 d10_16 X10.fn.ntmps [8] [[(0,false),(1,false),(2,false),(3,false),(4,false),(5,false),(6,false),(7,false),(8,true),(9,false),(10,false),(11,false),(12,false),(13,false)]] = true := by kernel_rfl
theorem m10_16 : chkM [0,1,2,3,4,5,6,7,8,9,10,11,12,13] [0,1,2,3,4,5,6,7,8,9,10,12,11,13] c10_16 = true := by kernel_rfl
def c10_17 := sB c10_15
def c10_18 := sA c10_17
theorem e10_18 : aI c10_18 = some [oo 45 (.move (.tmp 10)) 35,oo 46 (.binOp .neq 35 (.tmp 45) (.const (.int .i64 0)) 35) 4] := by kernel_rfl
def c10_19 := sB c10_17
def c10_20 := cT c10_19
def c10_21 := sA c10_20
theorem e10_21 : aI c10_21 = some [oo 47 (.move (.tmp 10)) 35,oo 4 (.assign (.const (.slice none 0 0))) 34,oo 5 (.assign (.tmp 47)) 35] := by kernel_rfl
def c10_22 := sB c10_20
theorem e10_22 : c10_22 = .ret := by kernel_rfl
theorem e10_20 : c10_20 = .seq c10_21 c10_22 := by kernel_rfl
def c10_23 := cE c10_19
theorem e10_23 : c10_23 = .skip := by kernel_rfl
theorem e10_19 : c10_19 = .cond (.tmp 46) c10_20 c10_23 := by kernel_rfl
theorem e10_17 : c10_17 = .seq c10_18 c10_19 := by kernel_rfl
theorem e10_15 : c10_15 = .seq c10_16 c10_17 := by kernel_rfl
def c10_24 := sB c10_14
def c10_25 := sA c10_24
def c10_26 := sA c10_25
theorem e10_26 : aI c10_26 = some [oo 48 (.fieldAddr 33 (.tmp 2) 1) 0,oo 49 (.load 28 (.tmp 48)) 28,oo 50 (.call ⟨.builtin .len,#[(.tmp 49)],#[28]⟩) 3,oo 51 (.move (.const (.int .i64 0))) 3] := by kernel_rfl
def c10_27 := sB c10_25
def c10_28 := bB c10_27
def c10_29 := bB c10_28
def c10_30 := sA c10_29
theorem e10_30 : aI c10_30 = some [oo 52 (.binOp .lss 3 (.tmp 51) (.tmp 50) 3) 0] := by kernel_rfl
def c10_31 := sB c10_29
def c10_32 := sA c10_31
def c10_33 := cT c10_32
theorem e10_33 : c10_33 = .skip := by kernel_rfl
def c10_34 := cE c10_32
theorem e10_34 : c10_34 = .exit 0 := by kernel_rfl
theorem e10_32 : c10_32 = .cond (.tmp 52) c10_33 c10_34 := by kernel_rfl
def c10_35 := sB c10_31
def c10_36 := sA c10_35
def c10_37 := bB c10_36
def c10_38 := sA c10_37
theorem e10_38 : aI c10_38 = some [oo 53 (.move (.tmp 51)) 3,oo 54 (.indexAddr 28 (.tmp 49) (.tmp 51)) 0,oo 55 (.load 9 (.tmp 54)) 9,oo 11 (.assign (.tmp 53)) 3,oo 12 (.assign (.tmp 55)) 9] := by kernel_rfl
def c10_39 := sB c10_37
def c10_40 := sA c10_39
theorem e10_40 : aI c10_40 = some [oo 56 (.fieldAddr 33 (.tmp 2) 1) 0,oo 57 (.load 28 (.tmp 56)) 28,oo 58 (.move (.tmp 11)) 3,oo 59 (.slice 28 (.tmp 57) none (some (.tmp 58)) none) 28,oo 60 (.move (.tmp 12)) 9,oo 61 (.call ⟨.value (.func 28),(List.toArray [(.tmp 59),(.tmp 60)]),#[28,9]⟩) 4] := by kernel_rfl
def c10_41 := sB c10_39
def c10_42 := cT c10_41
def c10_43 := sA c10_42
theorem e10_43 : aI c10_43 = some [oo 4 (.assign (.const (.slice none 0 0))) 34,oo 5 (.assign (.const (.int .i64 7))) 35] := by kernel_rfl
def c10_44 := sB c10_42
theorem e10_44 : c10_44 = .ret := by kernel_rfl
theorem e10_42 : c10_42 = .seq c10_43 c10_44 := by kernel_rfl
def c10_45 := cE c10_41
theorem e10_45 : c10_45 = .skip := by kernel_rfl
theorem e10_41 : c10_41 = .cond (.tmp 61) c10_42 c10_45 := by kernel_rfl
theorem e10_39 : c10_39 = .seq c10_40 c10_41 := by kernel_rfl
theorem e10_37 : c10_37 = .seq c10_38 c10_39 := by kernel_rfl
theorem e10_36 : c10_36 = .block 1 c10_37 := by kernel_rfl
def c10_46 := sB c10_35
theorem e10_46 : aI c10_46 = some [oo 62 (.binOp .add 3 (.tmp 51) (.const (.int .i64 1)) 3) 3,oo 51 (.move (.tmp 62)) 3] := by kernel_rfl
theorem e10_35 : c10_35 = .seq c10_36 c10_46 := by kernel_rfl
theorem e10_31 : c10_31 = .seq c10_32 c10_35 := by kernel_rfl
theorem e10_29 : c10_29 = .seq c10_30 c10_31 := by kernel_rfl
theorem e10_28 : c10_28 = .loop c10_29 := by kernel_rfl
theorem e10_27 : c10_27 = .block 0 c10_28 := by kernel_rfl
theorem e10_25 : c10_25 = .seq c10_26 c10_27 := by kernel_rfl
def c10_47 := sB c10_24
def c10_48 := sA c10_47
theorem e10_48 : aI c10_48 = some [oo 63 (.move (.tmp 8)) 69,oo 64 (.fieldAddr 33 (.tmp 2) 0) 0,oo 65 (.load 9 (.tmp 64)) 9,oo 66 (.fieldAddr 33 (.tmp 2) 1) 0,oo 67 (.load 28 (.tmp 66)) 28,oo 68 (.call ⟨.value (.func 29),(List.toArray [(.tmp 63),(.tmp 65),(.tmp 67)]),#[69,9,28]⟩) 35,oo 13 (.assign (.tmp 68)) 35] := by kernel_rfl
def c10_49 := sB c10_47
def c10_50 := sA c10_49
def c10_51 := sA c10_50
theorem e10_51 : aI c10_51 = some [oo 69 (.fieldAddr 33 (.tmp 2) 2) 0,oo 70 (.load 31 (.tmp 69)) 31,oo 71 (.call ⟨.value (.func 12),(List.toArray [(.tmp 70)]),#[31]⟩) 29,oo 72 (.call ⟨.builtin .len,#[(.tmp 71)],#[29]⟩) 3,oo 73 (.move (.const (.int .i64 0))) 3] := by kernel_rfl
def c10_52 := sB c10_50
def c10_53 := bB c10_52
def c10_54 := bB c10_53
def c10_55 := sA c10_54
theorem e10_55 : aI c10_55 = some [oo 74 (.binOp .lss 3 (.tmp 73) (.tmp 72) 3) 0] := by kernel_rfl
def c10_56 := sB c10_54
def c10_57 := sA c10_56
def c10_58 := cT c10_57
theorem e10_58 : c10_58 = .skip := by kernel_rfl
def c10_59 := cE c10_57
theorem e10_59 : c10_59 = .exit 2 := by kernel_rfl
theorem e10_57 : c10_57 = .cond (.tmp 74) c10_58 c10_59 := by kernel_rfl
def c10_60 := sB c10_56
def c10_61 := sA c10_60
def c10_62 := bB c10_61
def c10_63 := sA c10_62
theorem e10_63 : aI c10_63 = some [oo 75 (.indexAddr 29 (.tmp 71) (.tmp 73)) 0,oo 76 (.load 31 (.tmp 75)) 31,oo 15 (.alloc 31) 0,⟨none,none,.store 31 (.tmp 15) (.tmp 76),0⟩] := by kernel_rfl
def c10_64 := sB c10_62
def c10_65 := sA c10_64
theorem e10_65 : aI c10_65 = some [oo 77 (.move (.tmp 13)) 35,oo 78 (.binOp .eql 35 (.tmp 77) (.const (.int .i64 0)) 35) 4] := by kernel_rfl
def c10_66 := sB c10_64
def c10_67 := cT c10_66
theorem e10_67 : aI c10_67 = some [oo 79 (.move (.tmp 8)) 69,oo 80 (.fieldAddr 31 (.tmp 15) 2) 0,oo 81 (.load 9 (.tmp 80)) 9,oo 82 (.fieldAddr 31 (.tmp 15) 3) 0,oo 83 (.load 28 (.tmp 82)) 28,oo 84 (.call ⟨.value (.func 29),(List.toArray [(.tmp 79),(.tmp 81),(.tmp 83)]),#[69,9,28]⟩) 35,oo 13 (.assign (.tmp 84)) 35] := by kernel_rfl
def c10_68 := cE c10_66
theorem e10_68 : c10_68 = .skip := by kernel_rfl
theorem e10_66 : c10_66 = .cond (.tmp 78) c10_67 c10_68 := by kernel_rfl
theorem e10_64 : c10_64 = .seq c10_65 c10_66 := by kernel_rfl
theorem e10_62 : c10_62 = .seq c10_63 c10_64 := by kernel_rfl
theorem e10_61 : c10_61 = .block 3 c10_62 := by kernel_rfl
def c10_69 := sB c10_60
theorem e10_69 : aI c10_69 = some [oo 85 (.binOp .add 3 (.tmp 73) (.const (.int .i64 1)) 3) 3,oo 73 (.move (.tmp 85)) 3] := by kernel_rfl
theorem e10_60 : c10_60 = .seq c10_61 c10_69 := by kernel_rfl
theorem e10_56 : c10_56 = .seq c10_57 c10_60 := by kernel_rfl
theorem e10_54 : c10_54 = .seq c10_55 c10_56 := by kernel_rfl
theorem e10_53 : c10_53 = .loop c10_54 := by kernel_rfl
theorem e10_52 : c10_52 = .block 2 c10_53 := by kernel_rfl
theorem e10_50 : c10_50 = .seq c10_51 c10_52 := by kernel_rfl
def c10_70 := sB c10_49
def c10_71 := sA c10_70
def c10_72 := bB c10_71
def c10_73 := sA c10_72
theorem e10_73 : aI c10_73 = some [oo 87 (.move (.tmp 13)) 35,oo 88 (.binOp .neq 35 (.tmp 87) (.const (.int .i64 0)) 35) 4,oo 86 (.assign (.tmp 88)) 4] := by kernel_rfl
def c10_74 := sB c10_72
def c10_75 := cT c10_74
def c10_76 := sA c10_75
theorem e10_76 : aI c10_76 = some [oo 89 (.move (.tmp 13)) 35,oo 4 (.assign (.const (.slice none 0 0))) 34,oo 5 (.assign (.tmp 89)) 35] := by kernel_rfl
def c10_77 := sB c10_75
theorem e10_77 : c10_77 = .ret := by kernel_rfl
theorem e10_75 : c10_75 = .seq c10_76 c10_77 := by kernel_rfl
def c10_78 := cE c10_74
def c10_79 := sA c10_78
theorem e10_79 : aI c10_79 = some [oo 91 (.fieldAddr 33 (.tmp 2) 2) 0,oo 92 (.load 31 (.tmp 91)) 31,oo 93 (.call ⟨.value (.func 30),(List.toArray [(.tmp 92)]),#[31]⟩) 4,oo 94 (.unOp .not 4 (.tmp 93)) 4,oo 90 (.assign (.tmp 94)) 4] := by kernel_rfl
def c10_80 := sB c10_78
def c10_81 := cT c10_80
def c10_82 := sA c10_81
theorem e10_82 : aI c10_82 = some [oo 4 (.assign (.const (.slice none 0 0))) 34,oo 5 (.assign (.const (.int .i64 5))) 35] := by kernel_rfl
def c10_83 := sB c10_81
theorem e10_83 : c10_83 = .ret := by kernel_rfl
theorem e10_81 : c10_81 = .seq c10_82 c10_83 := by kernel_rfl
def c10_84 := cE c10_80
theorem e10_84 : c10_84 = .skip := by kernel_rfl
theorem e10_80 : c10_80 = .cond (.tmp 90) c10_81 c10_84 := by kernel_rfl
theorem e10_78 : c10_78 = .seq c10_79 c10_80 := by kernel_rfl
theorem e10_74 : c10_74 = .cond (.tmp 86) c10_75 c10_78 := by kernel_rfl
theorem e10_72 : c10_72 = .seq c10_73 c10_74 := by kernel_rfl
theorem e10_71 : c10_71 = .block 4 c10_72 := by kernel_rfl
def c10_85 := sB c10_70
def c10_86 := sA c10_85
theorem e10_86 : aI c10_86 = some [oo 95 (.move (.tmp 8)) 69,oo 96 (.nilCheck (.tmp 95)) 0,oo 97 (.fieldAddr 72 (.tmp 96) 1) 0,oo 98 (.load 34 (.tmp 97)) 34,oo 4 (.assign (.tmp 98)) 34,oo 5 (.assign (.const (.int .i64 0))) 35] := by kernel_rfl
def c10_87 := sB c10_85
theorem e10_87 : c10_87 = .ret := by kernel_rfl
theorem e10_85 : c10_85 = .seq c10_86 c10_87 := by kernel_rfl
theorem e10_70 : c10_70 = .seq c10_71 c10_85 := by kernel_rfl
theorem e10_49 : c10_49 = .seq c10_50 c10_70 := by kernel_rfl
theorem e10_47 : c10_47 = .seq c10_48 c10_49 := by kernel_rfl
theorem e10_24 : c10_24 = .seq c10_25 c10_47 := by kernel_rfl
theorem e10_14 : c10_14 = .seq c10_15 c10_24 := by kernel_rfl
theorem e10_12 : c10_12 = .seq c10_13 c10_14 := by kernel_rfl
theorem e10_2 : c10_2 = .seq c10_3 c10_12 := by kernel_rfl
theorem e10_0 : c10_0 = .seq c10_1 c10_2 := by kernel_rfl
def c11_0 := cK Try.f11
def c11_1 := sA c11_0
theorem e11_1 : aI c11_1 = some [oo 4 (.assign (.const (.int .i64 0))) 3,oo 5 (.assign (.const (.bool false))) 4] := by kernel_rfl
def c11_2 := sB c11_0
def c11_3 := sA c11_2
def c11_4 := sA c11_3
theorem e11_4 : aI c11_4 = some [oo 8 (.move (.tmp 0)) 34,oo 9 (.call ⟨.builtin .len,#[(.tmp 8)],#[34]⟩) 3,oo 10 (.move (.const (.int .i64 0))) 3] := by kernel_rfl
def c11_5 := sB c11_3
def c11_6 := bB c11_5
def c11_7 := bB c11_6
def c11_8 := sA c11_7
theorem e11_8 : aI c11_8 = some [oo 11 (.binOp .lss 3 (.tmp 10) (.tmp 9) 3) 0] := by kernel_rfl
def c11_9 := sB c11_7
def c11_10 := sA c11_9
def c11_11 := cT c11_10
theorem e11_11 : c11_11 = .skip := by kernel_rfl
def c11_12 := cE c11_10
theorem e11_12 : c11_12 = .exit 0 := by kernel_rfl
theorem e11_10 : c11_10 = .cond (.tmp 11) c11_11 c11_12 := by kernel_rfl
def c11_13 := sB c11_9
def c11_14 := sA c11_13
def c11_15 := bB c11_14
def c11_16 := sA c11_15
theorem e11_16 : aI c11_16 = some [oo 12 (.indexAddr 34 (.tmp 8) (.tmp 10)) 0,oo 13 (.load 39 (.tmp 12)) 39,oo 7 (.alloc 39) 0,⟨none,none,.store 39 (.tmp 7) (.tmp 13),0⟩] := by kernel_rfl
def c11_17 := sB c11_15
def c11_18 := sA c11_17
theorem e11_18 : aI c11_18 = some [oo 14 (.fieldAddr 39 (.tmp 7) 0) 0,oo 15 (.load 9 (.tmp 14)) 9,oo 16 (.move (.tmp 1)) 9,oo 17 (.binOp .eql 9 (.tmp 15) (.tmp 16) 9) 4] := by kernel_rfl
def c11_19 := sB c11_17
def c11_20 := cT c11_19
def c11_21 := sA c11_20
theorem e11_21 : aI c11_21 = some [oo 18 (.fieldAddr 39 (.tmp 7) 1) 0,oo 19 (.load 3 (.tmp 18)) 3,oo 4 (.assign (.tmp 19)) 3,oo 5 (.assign (.const (.bool true))) 4] := by kernel_rfl
def c11_22 := sB c11_20
theorem e11_22 : c11_22 = .ret := by kernel_rfl
theorem e11_20 : c11_20 = .seq c11_21 c11_22 := by kernel_rfl
def c11_23 := cE c11_19
theorem e11_23 : c11_23 = .skip := by kernel_rfl
theorem e11_19 : c11_19 = .cond (.tmp 17) c11_20 c11_23 := by kernel_rfl
theorem e11_17 : c11_17 = .seq c11_18 c11_19 := by kernel_rfl
theorem e11_15 : c11_15 = .seq c11_16 c11_17 := by kernel_rfl
theorem e11_14 : c11_14 = .block 1 c11_15 := by kernel_rfl
def c11_24 := sB c11_13
theorem e11_24 : aI c11_24 = some [oo 20 (.binOp .add 3 (.tmp 10) (.const (.int .i64 1)) 3) 3,oo 10 (.move (.tmp 20)) 3] := by kernel_rfl
theorem e11_13 : c11_13 = .seq c11_14 c11_24 := by kernel_rfl
theorem e11_9 : c11_9 = .seq c11_10 c11_13 := by kernel_rfl
theorem e11_7 : c11_7 = .seq c11_8 c11_9 := by kernel_rfl
theorem e11_6 : c11_6 = .loop c11_7 := by kernel_rfl
theorem e11_5 : c11_5 = .block 0 c11_6 := by kernel_rfl
theorem e11_3 : c11_3 = .seq c11_4 c11_5 := by kernel_rfl
def c11_25 := sB c11_2
def c11_26 := sA c11_25
theorem e11_26 : aI c11_26 = some [oo 4 (.assign (.const (.int .i64 0))) 3,oo 5 (.assign (.const (.bool false))) 4] := by kernel_rfl
def c11_27 := sB c11_25
theorem e11_27 : c11_27 = .ret := by kernel_rfl
theorem e11_25 : c11_25 = .seq c11_26 c11_27 := by kernel_rfl
theorem e11_2 : c11_2 = .seq c11_3 c11_25 := by kernel_rfl
theorem e11_0 : c11_0 = .seq c11_1 c11_2 := by kernel_rfl
def c12_0 := cK Try.f12
def c12_1 := sA c12_0
theorem e12_1 : aI c12_1 = some [oo 1 (.box 31 (.tmp 0)) 0,oo 2 (.assign (.const (.slice none 0 0))) 29] := by kernel_rfl
def c12_2 := sB c12_0
def c12_3 := sA c12_2
def c12_4 := sA c12_3
theorem e12_4 : aI c12_4 = some [oo 5 (.fieldAddr 31 (.tmp 1) 0) 0,oo 6 (.load 3 (.tmp 5)) 3,oo 7 (.binOp .eql 3 (.tmp 6) (.const (.int .i64 2)) 3) 4] := by kernel_rfl
def c12_5 := sB c12_3
def c12_6 := cT c12_5
def c12_7 := sA c12_6
theorem e12_7 : aI c12_7 = some [oo 8 (.load 31 (.tmp 1)) 31,oo 9 (.buildSlice 29 1 (List.toArray [(0,(.tmp 8))])) 29,oo 2 (.assign (.tmp 9)) 29] := by kernel_rfl
def c12_8 := sB c12_6
theorem e12_8 : c12_8 = .ret := by kernel_rfl
theorem e12_6 : c12_6 = .seq c12_7 c12_8 := by kernel_rfl
def c12_9 := cE c12_5
theorem e12_9 : c12_9 = .skip := by kernel_rfl
theorem e12_5 : c12_5 = .cond (.tmp 7) c12_6 c12_9 := by kernel_rfl
theorem e12_3 : c12_3 = .seq c12_4 c12_5 := by kernel_rfl
def c12_10 := sB c12_2
def c12_11 := sA c12_10
def c12_12 := sA c12_11
theorem e12_12 : aI c12_12 = some [oo 10 (.fieldAddr 31 (.tmp 1) 4) 0,oo 11 (.load 29 (.tmp 10)) 29,oo 12 (.call ⟨.builtin .len,#[(.tmp 11)],#[29]⟩) 3,oo 13 (.move (.const (.int .i64 0))) 3] := by kernel_rfl
def c12_13 := sB c12_11
def c12_14 := bB c12_13
def c12_15 := bB c12_14
def c12_16 := sA c12_15
theorem e12_16 : aI c12_16 = some [oo 14 (.binOp .lss 3 (.tmp 13) (.tmp 12) 3) 0] := by kernel_rfl
def c12_17 := sB c12_15
def c12_18 := sA c12_17
def c12_19 := cT c12_18
theorem e12_19 : c12_19 = .skip := by kernel_rfl
def c12_20 := cE c12_18
theorem e12_20 : c12_20 = .exit 0 := by kernel_rfl
theorem e12_18 : c12_18 = .cond (.tmp 14) c12_19 c12_20 := by kernel_rfl
def c12_21 := sB c12_17
def c12_22 := sA c12_21
def c12_23 := bB c12_22
def c12_24 := sA c12_23
theorem e12_24 : aI c12_24 = some [oo 15 (.indexAddr 29 (.tmp 11) (.tmp 13)) 0,oo 16 (.load 31 (.tmp 15)) 31,oo 4 (.alloc 31) 0,⟨none,none,.store 31 (.tmp 4) (.tmp 16),0⟩] := by kernel_rfl
def c12_25 := sB c12_23
theorem e12_25 : aI c12_25 = some [oo 17 (.move (.tmp 2)) 29,oo 18 (.load 31 (.tmp 4)) 31,oo 19 (.call ⟨.value (.func 12),(List.toArray [(.tmp 18)]),#[31]⟩) 29,oo 20 (.call ⟨.builtin .append,#[(.tmp 17),(.tmp 19)],#[29,29]⟩) 29,oo 2 (.assign (.tmp 20)) 29] := by kernel_rfl
theorem e12_23 : c12_23 = .seq c12_24 c12_25 := by kernel_rfl
theorem e12_22 : c12_22 = .block 1 c12_23 := by kernel_rfl
def c12_26 := sB c12_21
theorem e12_26 : aI c12_26 = some [oo 21 (.binOp .add 3 (.tmp 13) (.const (.int .i64 1)) 3) 3,oo 13 (.move (.tmp 21)) 3] := by kernel_rfl
theorem e12_21 : c12_21 = .seq c12_22 c12_26 := by kernel_rfl
theorem e12_17 : c12_17 = .seq c12_18 c12_21 := by kernel_rfl
theorem e12_15 : c12_15 = .seq c12_16 c12_17 := by kernel_rfl
theorem e12_14 : c12_14 = .loop c12_15 := by kernel_rfl
theorem e12_13 : c12_13 = .block 0 c12_14 := by kernel_rfl
theorem e12_11 : c12_11 = .seq c12_12 c12_13 := by kernel_rfl
def c12_27 := sB c12_10
def c12_28 := sA c12_27
theorem e12_28 : aI c12_28 = some [oo 22 (.move (.tmp 2)) 29,oo 2 (.assign (.tmp 22)) 29] := by kernel_rfl
def c12_29 := sB c12_27
theorem e12_29 : c12_29 = .ret := by kernel_rfl
theorem e12_27 : c12_27 = .seq c12_28 c12_29 := by kernel_rfl
theorem e12_10 : c12_10 = .seq c12_11 c12_27 := by kernel_rfl
theorem e12_2 : c12_2 = .seq c12_3 c12_10 := by kernel_rfl
theorem e12_0 : c12_0 = .seq c12_1 c12_2 := by kernel_rfl
def c13_0 := cK Try.f13
def c13_1 := sA c13_0
theorem e13_1 : aI c13_1 = some [oo 2 (.box 9 (.tmp 0)) 0,oo 4 (.alloc 45) 0,oo 5 (.assign (.const (.bool false))) 4] := by kernel_rfl
def c13_2 := sB c13_0
def c13_3 := sA c13_2
theorem e13_3 : aI c13_3 = some [oo 7 (.move (.tmp 1)) 22,oo 8 (.makeFunc (.func 32) (List.toArray []) (List.toArray [(.tmp 2)])) 77,oo 9 (.call ⟨.value (.func 31),(List.toArray [(.tmp 7),(.tmp 8)]),#[22,77]⟩) 3,oo 6 (.assign (.tmp 9)) 3] := by kernel_rfl
def c13_4 := sB c13_2
def c13_5 := sA c13_4
def c13_6 := sA c13_5
theorem e13_6 : aI c13_6 = some [oo 10 (.move (.tmp 6)) 3,oo 11 (.binOp .lss 3 (.tmp 10) (.const (.int .i64 0)) 3) 4] := by kernel_rfl
def c13_7 := sB c13_5
def c13_8 := cT c13_7
def c13_9 := sA c13_8
theorem e13_9 : aI c13_9 = some [oo 12 (.build 45 (List.toArray [])) 45,⟨none,none,.store 45 (.tmp 4) (.tmp 12),0⟩,oo 5 (.assign (.const (.bool false))) 4] := by kernel_rfl
def c13_10 := sB c13_8
theorem e13_10 : c13_10 = .ret := by kernel_rfl
theorem e13_8 : c13_8 = .seq c13_9 c13_10 := by kernel_rfl
def c13_11 := cE c13_7
theorem e13_11 : c13_11 = .skip := by kernel_rfl
theorem e13_7 : c13_7 = .cond (.tmp 11) c13_8 c13_11 := by kernel_rfl
theorem e13_5 : c13_5 = .seq c13_6 c13_7 := by kernel_rfl
def c13_12 := sB c13_4
def c13_13 := sA c13_12
theorem e13_13 : aI c13_13 = some [oo 13 (.move (.tmp 1)) 22,oo 14 (.move (.tmp 6)) 3,oo 15 (.indexAddr 22 (.tmp 13) (.tmp 14)) 0,oo 16 (.load 45 (.tmp 15)) 45,⟨none,none,.store 45 (.tmp 4) (.tmp 16),0⟩,oo 5 (.assign (.const (.bool true))) 4] := by kernel_rfl
def c13_14 := sB c13_12
theorem e13_14 : c13_14 = .ret := by kernel_rfl
theorem e13_12 : c13_12 = .seq c13_13 c13_14 := by kernel_rfl
theorem e13_4 : c13_4 = .seq c13_5 c13_12 := by kernel_rfl
theorem e13_2 : c13_2 = .seq c13_3 c13_4 := by kernel_rfl
theorem e13_0 : c13_0 = .seq c13_1 c13_2 := by kernel_rfl
def c14_0 := cK Try.f14
def c14_1 := sA c14_0
theorem e14_1 : aI c14_1 = some [oo 1 (.box 25 (.tmp 0)) 0,oo 2 (.assign (.const (.int .i64 0))) 3,oo 3 (.assign (.const (.int .i64 0))) 35] := by kernel_rfl
def c14_2 := sB c14_0
def c14_3 := sA c14_2
def c14_4 := sA c14_3
theorem e14_4 : aI c14_4 = some [oo 11 (.load 25 (.tmp 1)) 25,oo 12 (.call ⟨.value (.func 26),(List.toArray [(.tmp 11)]),#[25]⟩) 35,oo 4 (.assign (.tmp 12)) 35] := by kernel_rfl
def c14_5 := sB c14_3
def c14_6 := sA c14_5
theorem e14_6 : aI c14_6 = some [oo 13 (.move (.tmp 4)) 35,oo 14 (.binOp .neq 35 (.tmp 13) (.const (.int .i64 0)) 35) 4] := by kernel_rfl
def c14_7 := sB c14_5
def c14_8 := cT c14_7
def c14_9 := sA c14_8
theorem e14_9 : aI c14_9 = some [oo 15 (.move (.tmp 4)) 35,oo 2 (.assign (.const (.int .i64 0))) 3,oo 3 (.assign (.tmp 15)) 35] := by kernel_rfl
def c14_10 := sB c14_8
theorem e14_10 : c14_10 = .ret := by kernel_rfl
theorem e14_8 : c14_8 = .seq c14_9 c14_10 := by kernel_rfl
def c14_11 := cE c14_7
theorem e14_11 : c14_11 = .skip := by kernel_rfl
theorem e14_7 : c14_7 = .cond (.tmp 14) c14_8 c14_11 := by kernel_rfl
theorem e14_5 : c14_5 = .seq c14_6 c14_7 := by kernel_rfl
theorem e14_3 : c14_3 = .seq c14_4 c14_5 := by kernel_rfl
def c14_12 := sB c14_2
def c14_13 := sA c14_12
theorem e14_13 : aI c14_13 = some [oo 17 (.fieldAddr 25 (.tmp 1) 0) 0,oo 18 (.load 22 (.tmp 17)) 22,oo 19 (.call ⟨.value (.func 15),(List.toArray [(.tmp 18)]),#[22]⟩) 48,oo 16 (.move (.tmp 19)) 48,oo 20 (.extract (.tmp 16) 0) 3,oo 21 (.extract (.tmp 16) 1) 35,oo 5 (.assign (.tmp 20)) 3,oo 6 (.assign (.tmp 21)) 35] := by kernel_rfl
def c14_14 := sB c14_12
def c14_15 := sA c14_14
def c14_16 := sA c14_15
theorem e14_16 : aI c14_16 = some [oo 22 (.move (.tmp 6)) 35,oo 23 (.binOp .neq 35 (.tmp 22) (.const (.int .i64 0)) 35) 4] := by kernel_rfl
def c14_17 := sB c14_15
def c14_18 := cT c14_17
def c14_19 := sA c14_18
theorem e14_19 : aI c14_19 = some [oo 24 (.move (.tmp 5)) 3,oo 25 (.move (.tmp 6)) 35,oo 2 (.assign (.tmp 24)) 3,oo 3 (.assign (.tmp 25)) 35] := by kernel_rfl
def c14_20 := sB c14_18
theorem e14_20 : c14_20 = .ret := by kernel_rfl
theorem e14_18 : c14_18 = .seq c14_19 c14_20 := by kernel_rfl
def c14_21 := cE c14_17
theorem e14_21 : c14_21 = .skip := by kernel_rfl
theorem e14_17 : c14_17 = .cond (.tmp 23) c14_18 c14_21 := by kernel_rfl
theorem e14_15 : c14_15 = .seq c14_16 c14_17 := by kernel_rfl
def c14_22 := sB c14_14
def c14_23 := sA c14_22
def c14_24 := sA c14_23
theorem e14_24 : aI c14_24 = some [oo 26 (.fieldAddr 25 (.tmp 1) 1) 0,oo 27 (.load 23 (.tmp 26)) 23,oo 28 (.call ⟨.builtin .len,#[(.tmp 27)],#[23]⟩) 3,oo 29 (.move (.const (.int .i64 0))) 3] := by kernel_rfl
def c14_25 := sB c14_23
def c14_26 := bB c14_25
def c14_27 := bB c14_26
def c14_28 := sA c14_27
theorem e14_28 : aI c14_28 = some [oo 30 (.binOp .lss 3 (.tmp 29) (.tmp 28) 3) 0] := by kernel_rfl
def c14_29 := sB c14_27
def c14_30 := sA c14_29
def c14_31 := cT c14_30
theorem e14_31 : c14_31 = .skip := by kernel_rfl
def c14_32 := cE c14_30
theorem e14_32 : c14_32 = .exit 0 := by kernel_rfl
theorem e14_30 : c14_30 = .cond (.tmp 30) c14_31 c14_32 := by kernel_rfl
def c14_33 := sB c14_29
def c14_34 := sA c14_33
def c14_35 := bB c14_34
def c14_36 := sA c14_35
theorem e14_36 : aI c14_36 = some [oo 31 (.indexAddr 23 (.tmp 27) (.tmp 29)) 0,oo 32 (.load 33 (.tmp 31)) 33,oo 8 (.alloc 33) 0,⟨none,none,.store 33 (.tmp 8) (.tmp 32),0⟩] := by kernel_rfl
def c14_37 := sB c14_35
def c14_38 := sA c14_37
def c14_39 := sA c14_38
theorem e14_39 : aI c14_39 = some [oo 34 (.load 33 (.tmp 8)) 33,oo 35 (.fieldAddr 25 (.tmp 1) 0) 0,oo 36 (.load 22 (.tmp 35)) 22,oo 37 (.call ⟨.value (.func 10),(List.toArray [(.tmp 34),(.tmp 36)]),#[33,22]⟩) 36,oo 33 (.move (.tmp 37)) 36,oo 38 (.extract (.tmp 33) 0) 34,oo 39 (.extract (.tmp 33) 1) 35,oo 9 (.assign (.tmp 38)) 34,oo 10 (.assign (.tmp 39)) 35] := by kernel_rfl
def c14_40 := sB c14_38
def c14_41 := sA c14_40
theorem e14_41 : aI c14_41 = some [oo 40 (.move (.tmp 10)) 35,oo 41 (.binOp .neq 35 (.tmp 40) (.const (.int .i64 0)) 35) 4] := by kernel_rfl
def c14_42 := sB c14_40
def c14_43 := cT c14_42
def c14_44 := sA c14_43
theorem e14_44 : aI c14_44 = some [oo 42 (.move (.tmp 5)) 3,oo 43 (.move (.tmp 10)) 35,oo 2 (.assign (.tmp 42)) 3,oo 3 (.assign (.tmp 43)) 35] := by kernel_rfl
def c14_45 := sB c14_43
theorem e14_45 : c14_45 = .ret := by kernel_rfl
theorem e14_43 : c14_43 = .seq c14_44 c14_45 := by kernel_rfl
def c14_46 := cE c14_42
theorem e14_46 : c14_46 = .skip := by kernel_rfl
theorem e14_42 : c14_42 = .cond (.tmp 41) c14_43 c14_46 := by kernel_rfl
theorem e14_40 : c14_40 = .seq c14_41 c14_42 := by kernel_rfl
theorem e14_38 : c14_38 = .seq c14_39 c14_40 := by kernel_rfl
def c14_47 := sB c14_37
theorem e14_47 : aI c14_47 = some [oo 44 (.move (.tmp 5)) 3,oo 45 (.binOp .add 3 (.tmp 44) (.const (.int .i64 1)) 3) 3,oo 5 (.assign (.tmp 45)) 3] := by kernel_rfl
theorem e14_37 : c14_37 = .seq c14_38 c14_47 := by kernel_rfl
theorem e14_35 : c14_35 = .seq c14_36 c14_37 := by kernel_rfl
theorem e14_34 : c14_34 = .block 1 c14_35 := by kernel_rfl
def c14_48 := sB c14_33
theorem e14_48 : aI c14_48 = some [oo 46 (.binOp .add 3 (.tmp 29) (.const (.int .i64 1)) 3) 3,oo 29 (.move (.tmp 46)) 3] := by kernel_rfl
theorem e14_33 : c14_33 = .seq c14_34 c14_48 := by kernel_rfl
theorem e14_29 : c14_29 = .seq c14_30 c14_33 := by kernel_rfl
theorem e14_27 : c14_27 = .seq c14_28 c14_29 := by kernel_rfl
theorem e14_26 : c14_26 = .loop c14_27 := by kernel_rfl
theorem e14_25 : c14_25 = .block 0 c14_26 := by kernel_rfl
theorem e14_23 : c14_23 = .seq c14_24 c14_25 := by kernel_rfl
def c14_49 := sB c14_22
def c14_50 := sA c14_49
theorem e14_50 : aI c14_50 = some [oo 47 (.move (.tmp 5)) 3,oo 2 (.assign (.tmp 47)) 3,oo 3 (.assign (.const (.int .i64 0))) 35] := by kernel_rfl
def c14_51 := sB c14_49
theorem e14_51 : c14_51 = .ret := by kernel_rfl
theorem e14_49 : c14_49 = .seq c14_50 c14_51 := by kernel_rfl
theorem e14_22 : c14_22 = .seq c14_23 c14_49 := by kernel_rfl
theorem e14_14 : c14_14 = .seq c14_15 c14_22 := by kernel_rfl
theorem e14_12 : c14_12 = .seq c14_13 c14_14 := by kernel_rfl
theorem e14_2 : c14_2 = .seq c14_3 c14_12 := by kernel_rfl
theorem e14_0 : c14_0 = .seq c14_1 c14_2 := by kernel_rfl
def c15_0 := cK Try.f15
def c15_1 := sA c15_0
theorem e15_1 : aI c15_1 = some [oo 2 (.assign (.const (.int .i64 0))) 3,oo 3 (.assign (.const (.int .i64 0))) 35] := by kernel_rfl
def c15_2 := sB c15_0
def c15_3 := sA c15_2
def c15_4 := sA c15_3
theorem e15_4 : aI c15_4 = some [oo 8 (.move (.tmp 0)) 22,oo 9 (.call ⟨.builtin .len,#[(.tmp 8)],#[22]⟩) 3,oo 10 (.move (.const (.int .i64 0))) 3] := by kernel_rfl
def c15_5 := sB c15_3
def c15_6 := bB c15_5
def c15_7 := bB c15_6
def c15_8 := sA c15_7
theorem e15_8 : aI c15_8 = some [oo 11 (.binOp .lss 3 (.tmp 10) (.tmp 9) 3) 0] := by kernel_rfl
def c15_9 := sB c15_7
def c15_10 := sA c15_9
def c15_11 := cT c15_10
theorem e15_11 : c15_11 = .skip := by kernel_rfl
def c15_12 := cE c15_10
theorem e15_12 : c15_12 = .exit 0 := by kernel_rfl
theorem e15_10 : c15_10 = .cond (.tmp 11) c15_11 c15_12 := by kernel_rfl
def c15_13 := sB c15_9
def c15_14 := sA c15_13
def c15_15 := bB c15_14
def c15_16 := sA c15_15
theorem e15_16 : aI c15_16 = some [oo 12 (.move (.tmp 10)) 3,oo 4 (.assign (.tmp 12)) 3] := by kernel_rfl
def c15_17 := sB c15_15
def c15_18 := sA c15_17
theorem e15_18 : aI c15_18 = some [oo 13 (.move (.tmp 0)) 22,oo 14 (.move (.tmp 4)) 3,oo 15 (.move (.tmp 4)) 3,oo 16 (.binOp .add 3 (.tmp 15) (.const (.int .i64 1)) 3) 3,oo 17 (.slice 22 (.tmp 13) (some (.tmp 14)) (some (.tmp 16)) none) 22,oo 18 (.build 25 (List.toArray [(0,(.tmp 17))])) 25,oo 19 (.call ⟨.value (.func 26),(List.toArray [(.tmp 18)]),#[25]⟩) 35,oo 5 (.assign (.tmp 19)) 35] := by kernel_rfl
def c15_19 := sB c15_17
def c15_20 := sA c15_19
def c15_21 := sA c15_20
theorem e15_21 : aI c15_21 = some [oo 20 (.move (.tmp 5)) 35,oo 21 (.binOp .eql 35 (.tmp 20) (.const (.int .i64 0)) 35) 4] := by kernel_rfl
def c15_22 := sB c15_20
def c15_23 := cT c15_22
def c15_24 := sA c15_23
def o15_24 : List COp := [oo 23 (.move (.tmp 0)) 22,oo 24 (.move (.tmp 4)) 3,oo 25 (.indexAddr 22 (.tmp 23) (.tmp 24)) 0,oo 26 (.fieldAddr 45 (.tmp 25) 0) 0,oo 27 (.load 9 (.tmp 26)) 9,oo 28 (.move (.tmp 0)) 22,oo 29 (.move (.tmp 4)) 3,oo 30 (.slice 22 (.tmp 28) none (some (.tmp 29)) none) 22,oo 31 (.call ⟨.value (.func 13),(List.toArray [(.tmp 27),(.tmp 30)]),#[9,22]⟩) 46,oo 22 (.move (.tmp 31)) 46,oo 32 (.extract (.tmp 22) 0) 45,oo 33 (.extract (.tmp 22) 1) 4,oo 6 (.alloc 45) 0,⟨none,none,.store 45 (.tmp 6) (.tmp 32),0⟩,oo 7 (.assign (.tmp 33)) 4]
def d15_24 : List (List Nat) := [[],[],[0,1],[2],[3],[],[],[5,6],[4,7],[8],[9],[9],[],[12,10,8,0,1,2,3,4,5,6,7,8,9,10,12],[11,13,0,1,2,3,4,5,6,7,8,9,10,11,12,13]]
theorem e15_24 : rDrw c15_24 = some (o15_24,d15_24) := by kernel_rfl
theorem k15_24 : chkCs o15_24 d15_24 X15.fn.ntmps [8,12,13] [[(0,false),(1,false),(2,false),(3,false),(4,false),(5,false),(6,false),(7,false),(8,true),(9,false),(10,false),(11,false),(12,true),(13,true),(14,false)],[(0,false),(1,false),(2,false),(3,false),(4,false),(5,false),(6,false),(7,false),(12,true),(8,true),(9,false),(10,false),(11,false),(13,true),(14,false)]] = true := by kernel_rfl
theorem m15_24 : chkM [0,1,2,3,4,5,6,7,8,9,10,11,12,13,14] [0,1,2,3,4,5,6,7,8,9,10,12,13,11,14] c15_24 = true := by kernel_rfl
def c15_25 := sB c15_23
def c15_26 := sA c15_25
theorem e15_26 : aI c15_26 = some [oo 34 (.move (.tmp 7)) 4] := by kernel_rfl
def c15_27 := sB c15_25
def c15_28 := cT c15_27
theorem e15_28 : aI c15_28 = some [oo 5 (.assign (.const (.int .i64 7))) 35] := by kernel_rfl
def c15_29 := cE c15_27
theorem e15_29 : c15_29 = .skip := by kernel_rfl
theorem e15_27 : c15_27 = .cond (.tmp 34) c15_28 c15_29 := by kernel_rfl
theorem e15_25 : c15_25 = .seq c15_26 c15_27 := by kernel_rfl
theorem e15_23 : c15_23 = .seq c15_24 c15_25 := by kernel_rfl
def c15_30 := cE c15_22
theorem e15_30 : c15_30 = .skip := by kernel_rfl
theorem e15_22 : c15_22 = .cond (.tmp 21) c15_23 c15_30 := by kernel_rfl
theorem e15_20 : c15_20 = .seq c15_21 c15_22 := by kernel_rfl
def c15_31 := sB c15_19
def c15_32 := sA c15_31
def c15_33 := sA c15_32
theorem e15_33 : aI c15_33 = some [oo 35 (.move (.tmp 5)) 35,oo 36 (.binOp .eql 35 (.tmp 35) (.const (.int .i64 0)) 35) 4] := by kernel_rfl
def c15_34 := sB c15_32
def c15_35 := cT c15_34
theorem e15_35 : aI c15_35 = some [oo 38 (.move (.tmp 0)) 22,oo 39 (.move (.tmp 4)) 3,oo 40 (.indexAddr 22 (.tmp 38) (.tmp 39)) 0,oo 41 (.load 45 (.tmp 40)) 45,oo 42 (.call ⟨.value (.func 33),(List.toArray [(.tmp 41)]),#[45]⟩) 79,oo 37 (.move (.tmp 42)) 79,oo 43 (.extract (.tmp 37) 0) 78,oo 44 (.extract (.tmp 37) 1) 35,oo 5 (.assign (.tmp 44)) 35] := by kernel_rfl
def c15_36 := cE c15_34
theorem e15_36 : c15_36 = .skip := by kernel_rfl
theorem e15_34 : c15_34 = .cond (.tmp 36) c15_35 c15_36 := by kernel_rfl
theorem e15_32 : c15_32 = .seq c15_33 c15_34 := by kernel_rfl
def c15_37 := sB c15_31
def c15_38 := sA c15_37
theorem e15_38 : aI c15_38 = some [oo 45 (.move (.tmp 5)) 35,oo 46 (.binOp .neq 35 (.tmp 45) (.const (.int .i64 0)) 35) 4] := by kernel_rfl
def c15_39 := sB c15_37
def c15_40 := cT c15_39
def c15_41 := sA c15_40
theorem e15_41 : aI c15_41 = some [oo 47 (.move (.tmp 4)) 3,oo 48 (.move (.tmp 5)) 35,oo 2 (.assign (.tmp 47)) 3,oo 3 (.assign (.tmp 48)) 35] := by kernel_rfl
def c15_42 := sB c15_40
theorem e15_42 : c15_42 = .ret := by kernel_rfl
theorem e15_40 : c15_40 = .seq c15_41 c15_42 := by kernel_rfl
def c15_43 := cE c15_39
theorem e15_43 : c15_43 = .skip := by kernel_rfl
theorem e15_39 : c15_39 = .cond (.tmp 46) c15_40 c15_43 := by kernel_rfl
theorem e15_37 : c15_37 = .seq c15_38 c15_39 := by kernel_rfl
theorem e15_31 : c15_31 = .seq c15_32 c15_37 := by kernel_rfl
theorem e15_19 : c15_19 = .seq c15_20 c15_31 := by kernel_rfl
theorem e15_17 : c15_17 = .seq c15_18 c15_19 := by kernel_rfl
theorem e15_15 : c15_15 = .seq c15_16 c15_17 := by kernel_rfl
theorem e15_14 : c15_14 = .block 1 c15_15 := by kernel_rfl
def c15_44 := sB c15_13
theorem e15_44 : aI c15_44 = some [oo 49 (.binOp .add 3 (.tmp 10) (.const (.int .i64 1)) 3) 3,oo 10 (.move (.tmp 49)) 3] := by kernel_rfl
theorem e15_13 : c15_13 = .seq c15_14 c15_44 := by kernel_rfl
theorem e15_9 : c15_9 = .seq c15_10 c15_13 := by kernel_rfl
theorem e15_7 : c15_7 = .seq c15_8 c15_9 := by kernel_rfl
theorem e15_6 : c15_6 = .loop c15_7 := by kernel_rfl
theorem e15_5 : c15_5 = .block 0 c15_6 := by kernel_rfl
theorem e15_3 : c15_3 = .seq c15_4 c15_5 := by kernel_rfl
def c15_45 := sB c15_2
def c15_46 := sA c15_45
theorem e15_46 : aI c15_46 = some [oo 50 (.move (.tmp 0)) 22,oo 51 (.call ⟨.builtin .len,#[(.tmp 50)],#[22]⟩) 3,oo 2 (.assign (.tmp 51)) 3,oo 3 (.assign (.const (.int .i64 0))) 35] := by kernel_rfl
def c15_47 := sB c15_45
theorem e15_47 : c15_47 = .ret := by kernel_rfl
theorem e15_45 : c15_45 = .seq c15_46 c15_47 := by kernel_rfl
theorem e15_2 : c15_2 = .seq c15_3 c15_45 := by kernel_rfl
theorem e15_0 : c15_0 = .seq c15_1 c15_2 := by kernel_rfl
def c17_0 := cK Try.f17
def c17_1 := sA c17_0
theorem e17_1 : aI c17_1 = some [oo 1 (.box 33 (.tmp 0)) 0,oo 2 (.alloc 31) 0,oo 3 (.assign (.const (.int .i64 0))) 35] := by kernel_rfl
def c17_2 := sB c17_0
def c17_3 := sA c17_2
def c17_4 := sA c17_3
theorem e17_4 : aI c17_4 = some [oo 5 (.load 33 (.tmp 1)) 33,oo 6 (.buildSlice 23 1 (List.toArray [(0,(.tmp 5))])) 23,oo 7 (.build 25 (List.toArray [(1,(.tmp 6))])) 25,oo 8 (.call ⟨.value (.func 26),(List.toArray [(.tmp 7)]),#[25]⟩) 35,oo 4 (.assign (.tmp 8)) 35] := by kernel_rfl
def c17_5 := sB c17_3
def c17_6 := sA c17_5
theorem e17_6 : aI c17_6 = some [oo 9 (.move (.tmp 4)) 35,oo 10 (.binOp .neq 35 (.tmp 9) (.const (.int .i64 0)) 35) 4] := by kernel_rfl
def c17_7 := sB c17_5
def c17_8 := cT c17_7
def c17_9 := sA c17_8
theorem e17_9 : aI c17_9 = some [oo 11 (.build 31 (List.toArray [])) 31,oo 12 (.move (.tmp 4)) 35,⟨none,none,.store 31 (.tmp 2) (.tmp 11),0⟩,oo 3 (.assign (.tmp 12)) 35] := by kernel_rfl
def c17_10 := sB c17_8
theorem e17_10 : c17_10 = .ret := by kernel_rfl
theorem e17_8 : c17_8 = .seq c17_9 c17_10 := by kernel_rfl
def c17_11 := cE c17_7
theorem e17_11 : c17_11 = .skip := by kernel_rfl
theorem e17_7 : c17_7 = .cond (.tmp 10) c17_8 c17_11 := by kernel_rfl
theorem e17_5 : c17_5 = .seq c17_6 c17_7 := by kernel_rfl
theorem e17_3 : c17_3 = .seq c17_4 c17_5 := by kernel_rfl
def c17_12 := sB c17_2
def c17_13 := sA c17_12
theorem e17_13 : aI c17_13 = some [oo 13 (.fieldAddr 33 (.tmp 1) 2) 0,oo 14 (.load 31 (.tmp 13)) 31,oo 15 (.fieldAddr 33 (.tmp 1) 1) 0,oo 16 (.load 28 (.tmp 15)) 28,oo 17 (.call ⟨.value (.func 34),(List.toArray [(.tmp 14),(.tmp 16)]),#[31,28]⟩) 31,⟨none,none,.store 31 (.tmp 2) (.tmp 17),0⟩,oo 3 (.assign (.const (.int .i64 0))) 35] := by kernel_rfl
def c17_14 := sB c17_12
theorem e17_14 : c17_14 = .ret := by kernel_rfl
theorem e17_12 : c17_12 = .seq c17_13 c17_14 := by kernel_rfl
theorem e17_2 : c17_2 = .seq c17_3 c17_12 := by kernel_rfl
theorem e17_0 : c17_0 = .seq c17_1 c17_2 := by kernel_rfl
def c18_0 := cK Try.f18
def c18_1 := sA c18_0
theorem e18_1 : aI c18_1 = some [oo 1 (.box 31 (.tmp 0)) 0,oo 2 (.assign (.const (.slice none 0 0))) 28] := by kernel_rfl
def c18_2 := sB c18_0
def c18_3 := sA c18_2
theorem e18_3 : aI c18_3 = some [oo 3 (.load 31 (.tmp 1)) 31,oo 4 (.call ⟨.value (.func 35),(List.toArray [(.tmp 3),(.const (.slice none 0 0)),(.const (.slice none 0 0))]),#[31,28,28]⟩) 28,oo 2 (.assign (.tmp 4)) 28] := by kernel_rfl
def c18_4 := sB c18_2
theorem e18_4 : c18_4 = .ret := by kernel_rfl
theorem e18_2 : c18_2 = .seq c18_3 c18_4 := by kernel_rfl
theorem e18_0 : c18_0 = .seq c18_1 c18_2 := by kernel_rfl
def c21_0 := cK Try.f21
def c21_1 := sA c21_0
theorem e21_1 : aI c21_1 = some [oo 1 (.box 31 (.tmp 0)) 0,oo 2 (.assign (.const (.bool false))) 4] := by kernel_rfl
def c21_2 := sB c21_0
def c21_3 := sA c21_2
theorem e21_3 : aI c21_3 = some [oo 4 (.load 31 (.tmp 1)) 31,oo 5 (.call ⟨.value (.func 38),(List.toArray [(.tmp 4),(.const (.int .i64 16))]),#[31,3]⟩) 3,oo 3 (.assign (.tmp 5)) 3] := by kernel_rfl
def c21_4 := sB c21_2
def c21_5 := sA c21_4
theorem e21_5 : aI c21_5 = some [oo 6 (.move (.tmp 3)) 3,oo 7 (.binOp .gtr 3 (.tmp 6) (.const (.int .i64 0)) 3) 4,oo 8 (.move (.tmp 7)) 4,⟨some (8,true),some 9,.move (.tmp 3),3⟩,⟨some (8,true),some 10,.binOp .leq 3 (.tmp 9) (.const (.int .i64 120)) 3,4⟩,oo 11 (.pick (.tmp 8) (.tmp 10) (.const (.bool false))) 4,oo 2 (.assign (.tmp 11)) 4] := by kernel_rfl
def c21_6 := sB c21_4
theorem e21_6 : c21_6 = .ret := by kernel_rfl
theorem e21_4 : c21_4 = .seq c21_5 c21_6 := by kernel_rfl
theorem e21_2 : c21_2 = .seq c21_3 c21_4 := by kernel_rfl
theorem e21_0 : c21_0 = .seq c21_1 c21_2 := by kernel_rfl
def c24_0 := cK Try.f24
def c24_1 := sA c24_0
theorem e24_1 : aI c24_1 = some [oo 2 (.alloc 25) 0,oo 3 (.assign (.const (.int .i64 0))) 3,oo 4 (.assign (.const (.int .i64 0))) 35] := by kernel_rfl
def c24_2 := sB c24_0
def c24_3 := sA c24_2
theorem e24_3 : aI c24_3 = some [oo 14 (.move (.tmp 0)) 9,oo 15 (.call ⟨.value (.func 40),(List.toArray [(.tmp 14)]),#[9]⟩) 88,oo 13 (.move (.tmp 15)) 88,oo 16 (.extract (.tmp 13) 0) 87,oo 17 (.extract (.tmp 13) 1) 3,oo 18 (.extract (.tmp 13) 2) 35,oo 5 (.assign (.tmp 16)) 87,oo 6 (.assign (.tmp 17)) 3,oo 7 (.assign (.tmp 18)) 35] := by kernel_rfl
def c24_4 := sB c24_2
def c24_5 := sA c24_4
def c24_6 := sA c24_5
theorem e24_6 : aI c24_6 = some [oo 19 (.move (.tmp 7)) 35,oo 20 (.binOp .neq 35 (.tmp 19) (.const (.int .i64 0)) 35) 4] := by kernel_rfl
def c24_7 := sB c24_5
def c24_8 := cT c24_7
def c24_9 := sA c24_8
theorem e24_9 : aI c24_9 = some [oo 21 (.load 25 (.tmp 2)) 25,oo 22 (.move (.tmp 6)) 3,oo 23 (.move (.tmp 7)) 35,⟨none,none,.store 25 (.tmp 2) (.tmp 21),0⟩,oo 3 (.assign (.tmp 22)) 3,oo 4 (.assign (.tmp 23)) 35] := by kernel_rfl
def c24_10 := sB c24_8
theorem e24_10 : c24_10 = .ret := by kernel_rfl
theorem e24_8 : c24_8 = .seq c24_9 c24_10 := by kernel_rfl
def c24_11 := cE c24_7
theorem e24_11 : c24_11 = .skip := by kernel_rfl
theorem e24_7 : c24_7 = .cond (.tmp 20) c24_8 c24_11 := by kernel_rfl
theorem e24_5 : c24_5 = .seq c24_6 c24_7 := by kernel_rfl
def c24_12 := sB c24_4
def c24_13 := sA c24_12
theorem e24_13 : aI c24_13 = some [oo 24 (.move (.tmp 5)) 87,oo 25 (.call ⟨.value (.func 41),(List.toArray [(.tmp 24)]),#[87]⟩) 90,oo 8 (.assign (.tmp 25)) 90] := by kernel_rfl
def c24_14 := sB c24_12
def c24_15 := sA c24_14
def c24_16 := sA c24_15
theorem e24_16 : aI c24_16 = some [oo 26 (.move (.tmp 8)) 90,oo 27 (.call ⟨.builtin .len,#[(.tmp 26)],#[90]⟩) 3,oo 28 (.move (.const (.int .i64 0))) 3] := by kernel_rfl
def c24_17 := sB c24_15
def c24_18 := bB c24_17
def c24_19 := bB c24_18
def c24_20 := sA c24_19
theorem e24_20 : aI c24_20 = some [oo 29 (.binOp .lss 3 (.tmp 28) (.tmp 27) 3) 0] := by kernel_rfl
def c24_21 := sB c24_19
def c24_22 := sA c24_21
def c24_23 := cT c24_22
theorem e24_23 : c24_23 = .skip := by kernel_rfl
def c24_24 := cE c24_22
theorem e24_24 : c24_24 = .exit 0 := by kernel_rfl
theorem e24_22 : c24_22 = .cond (.tmp 29) c24_23 c24_24 := by kernel_rfl
def c24_25 := sB c24_21
def c24_26 := sA c24_25
def c24_27 := bB c24_26
def c24_28 := sA c24_27
theorem e24_28 : aI c24_28 = some [oo 30 (.move (.tmp 28)) 3,oo 31 (.indexAddr 90 (.tmp 26) (.tmp 28)) 0,oo 32 (.load 87 (.tmp 31)) 87,oo 9 (.assign (.tmp 30)) 3,oo 10 (.assign (.tmp 32)) 87] := by kernel_rfl
def c24_29 := sB c24_27
def c24_30 := sA c24_29
theorem e24_30 : aI c24_30 = some [oo 33 (.move (.tmp 10)) 87,oo 34 (.build 94 (List.toArray [(0,(.tmp 33))])) 94,oo 35 (.build 96 (List.toArray [(0,(.tmp 34))])) 96,oo 36 (.box 96 (.tmp 35)) 92,oo 11 (.assign (.tmp 36)) 92] := by kernel_rfl
def c24_31 := sB c24_29
def c24_32 := sA c24_31
theorem e24_32 : aI c24_32 = some [oo 12 (.assign (.const (.bool false))) 4] := by kernel_rfl
def c24_33 := sB c24_31
def c24_34 := sA c24_33
def c24_35 := sA c24_34
theorem e24_35 : aI c24_35 = some [oo 37 (.move (.tmp 11)) 92,oo 38 (.call ⟨.value (.func 42),(List.toArray [(.tmp 37),(.const (.string ⟨#[116,101,110,115,111,114]⟩))]),#[92,9]⟩) 4] := by kernel_rfl
def c24_36 := sB c24_34
def c24_37 := cT c24_36
def c24_38 := sA c24_37
theorem e24_38 : aI c24_38 = some [oo 39 (.fieldAddr 25 (.tmp 2) 1) 0,oo 40 (.load 23 (.tmp 39)) 23,oo 41 (.call ⟨.builtin .len,#[(.tmp 40)],#[23]⟩) 3,oo 42 (.binOp .gtr 3 (.tmp 41) (.const (.int .i64 0)) 3) 4,oo 12 (.assign (.tmp 42)) 4] := by kernel_rfl
def c24_39 := sB c24_37
def o24_39 : List COp := [oo 43 (.fieldAddr 25 (.tmp 2) 0) 0,oo 44 (.load 22 (.tmp 43)) 22,oo 45 (.move (.tmp 11)) 92,oo 46 (.call ⟨.value (.func 43),(List.toArray [(.tmp 45)]),#[92]⟩) 45,oo 47 (.buildSlice 22 1 (List.toArray [(0,(.tmp 46))])) 22,oo 48 (.call ⟨.builtin .append,#[(.tmp 44),(.tmp 47)],#[22,22]⟩) 22,oo 49 (.fieldAddr 25 (.tmp 2) 0) 0,⟨none,none,.store 22 (.tmp 49) (.tmp 48),0⟩]
def d24_39 : List (List Nat) := [[],[0],[],[2],[3],[1,4,3],[0,1,2,3,4,5],[6,5,5,0,1,2,3,4,5]]
theorem e24_39 : rDrw c24_39 = some (o24_39,d24_39) := by kernel_rfl
theorem k24_39 : chkCs o24_39 d24_39 X24.fn.ntmps [3,4,5,7] [[(0,false),(1,false),(2,false),(3,true),(4,true),(5,true),(6,false),(7,true)]] = true := by kernel_rfl
theorem m24_39 : chkM [0,1,2,3,4,5,6,7] [0,1,2,3,4,5,6,7] c24_39 = true := by kernel_rfl
theorem e24_37 : c24_37 = .seq c24_38 c24_39 := by kernel_rfl
def c24_40 := cE c24_36
def o24_40 : List COp := [oo 50 (.fieldAddr 25 (.tmp 2) 1) 0,oo 51 (.load 23 (.tmp 50)) 23,oo 52 (.move (.tmp 11)) 92,oo 53 (.call ⟨.value (.func 44),(List.toArray [(.tmp 52)]),#[92]⟩) 33,oo 54 (.buildSlice 23 1 (List.toArray [(0,(.tmp 53))])) 23,oo 55 (.call ⟨.builtin .append,#[(.tmp 51),(.tmp 54)],#[23,23]⟩) 23,oo 56 (.fieldAddr 25 (.tmp 2) 1) 0,⟨none,none,.store 23 (.tmp 56) (.tmp 55),0⟩]
def d24_40 : List (List Nat) := [[],[0],[],[2],[3],[1,4,3],[0,1,2,3,4,5],[6,5,5,0,1,2,3,4,5]]
theorem e24_40 : rDrw c24_40 = some (o24_40,d24_40) := by kernel_rfl
theorem k24_40 : chkCs o24_40 d24_40 X24.fn.ntmps [3,4,5,7] [[(0,false),(1,false),(2,false),(3,true),(4,true),(5,true),(6,false),(7,true)]] = true := by kernel_rfl
theorem m24_40 : chkM [0,1,2,3,4,5,6,7] [0,1,2,3,4,5,6,7] c24_40 = true := by kernel_rfl
theorem e24_36 : c24_36 = .cond (.tmp 38) c24_37 c24_40 := by kernel_rfl
theorem e24_34 : c24_34 = .seq c24_35 c24_36 := by kernel_rfl
def c24_41 := sB c24_33
def c24_42 := bB c24_41
def c24_43 := sA c24_42
theorem e24_43 : aI c24_43 = some [oo 58 (.move (.tmp 11)) 92,oo 59 (.call ⟨.value (.func 45),(List.toArray [(.tmp 58)]),#[92]⟩) 4,oo 60 (.unOp .not 4 (.tmp 59)) 4,oo 61 (.move (.tmp 60)) 4,⟨some (61,false),some 62,.move (.tmp 12),4⟩,oo 63 (.pick (.tmp 61) (.const (.bool true)) (.tmp 62)) 4,oo 57 (.assign (.tmp 63)) 4] := by kernel_rfl
def c24_44 := sB c24_42
def c24_45 := cT c24_44
def c24_46 := sA c24_45
theorem e24_46 : aI c24_46 = some [oo 64 (.build 25 (List.toArray [])) 25,oo 65 (.move (.tmp 9)) 3,⟨none,none,.store 25 (.tmp 2) (.tmp 64),0⟩,oo 3 (.assign (.tmp 65)) 3,oo 4 (.assign (.const (.int .i64 6))) 35] := by kernel_rfl
def c24_47 := sB c24_45
theorem e24_47 : c24_47 = .ret := by kernel_rfl
theorem e24_45 : c24_45 = .seq c24_46 c24_47 := by kernel_rfl
def c24_48 := cE c24_44
def c24_49 := sA c24_48
theorem e24_49 : aI c24_49 = some [oo 67 (.load 25 (.tmp 2)) 25,oo 68 (.call ⟨.value (.func 26),(List.toArray [(.tmp 67)]),#[25]⟩) 35,oo 69 (.binOp .neq 35 (.tmp 68) (.const (.int .i64 0)) 35) 4,oo 66 (.assign (.tmp 69)) 4] := by kernel_rfl
def c24_50 := sB c24_48
def c24_51 := cT c24_50
def c24_52 := sA c24_51
theorem e24_52 : aI c24_52 = some [oo 70 (.build 25 (List.toArray [])) 25,oo 71 (.move (.tmp 9)) 3,⟨none,none,.store 25 (.tmp 2) (.tmp 70),0⟩,oo 3 (.assign (.tmp 71)) 3,oo 4 (.assign (.const (.int .i64 2))) 35] := by kernel_rfl
def c24_53 := sB c24_51
theorem e24_53 : c24_53 = .ret := by kernel_rfl
theorem e24_51 : c24_51 = .seq c24_52 c24_53 := by kernel_rfl
def c24_54 := cE c24_50
theorem e24_54 : c24_54 = .skip := by kernel_rfl
theorem e24_50 : c24_50 = .cond (.tmp 66) c24_51 c24_54 := by kernel_rfl
theorem e24_48 : c24_48 = .seq c24_49 c24_50 := by kernel_rfl
theorem e24_44 : c24_44 = .cond (.tmp 57) c24_45 c24_48 := by kernel_rfl
theorem e24_42 : c24_42 = .seq c24_43 c24_44 := by kernel_rfl
theorem e24_41 : c24_41 = .block 2 c24_42 := by kernel_rfl
theorem e24_33 : c24_33 = .seq c24_34 c24_41 := by kernel_rfl
theorem e24_31 : c24_31 = .seq c24_32 c24_33 := by kernel_rfl
theorem e24_29 : c24_29 = .seq c24_30 c24_31 := by kernel_rfl
theorem e24_27 : c24_27 = .seq c24_28 c24_29 := by kernel_rfl
theorem e24_26 : c24_26 = .block 1 c24_27 := by kernel_rfl
def c24_55 := sB c24_25
theorem e24_55 : aI c24_55 = some [oo 72 (.binOp .add 3 (.tmp 28) (.const (.int .i64 1)) 3) 3,oo 28 (.move (.tmp 72)) 3] := by kernel_rfl
theorem e24_25 : c24_25 = .seq c24_26 c24_55 := by kernel_rfl
theorem e24_21 : c24_21 = .seq c24_22 c24_25 := by kernel_rfl
theorem e24_19 : c24_19 = .seq c24_20 c24_21 := by kernel_rfl
theorem e24_18 : c24_18 = .loop c24_19 := by kernel_rfl
theorem e24_17 : c24_17 = .block 0 c24_18 := by kernel_rfl
theorem e24_15 : c24_15 = .seq c24_16 c24_17 := by kernel_rfl
def c24_56 := sB c24_14
def c24_57 := sA c24_56
theorem e24_57 : aI c24_57 = some [oo 73 (.load 25 (.tmp 2)) 25,oo 74 (.move (.tmp 8)) 90,oo 75 (.call ⟨.builtin .len,#[(.tmp 74)],#[90]⟩) 3,⟨none,none,.store 25 (.tmp 2) (.tmp 73),0⟩,oo 3 (.assign (.tmp 75)) 3,oo 4 (.assign (.const (.int .i64 0))) 35] := by kernel_rfl
def c24_58 := sB c24_56
theorem e24_58 : c24_58 = .ret := by kernel_rfl
theorem e24_56 : c24_56 = .seq c24_57 c24_58 := by kernel_rfl
theorem e24_14 : c24_14 = .seq c24_15 c24_56 := by kernel_rfl
theorem e24_12 : c24_12 = .seq c24_13 c24_14 := by kernel_rfl
theorem e24_4 : c24_4 = .seq c24_5 c24_12 := by kernel_rfl
theorem e24_2 : c24_2 = .seq c24_3 c24_4 := by kernel_rfl
theorem e24_0 : c24_0 = .seq c24_1 c24_2 := by kernel_rfl
def c25_0 := cK Try.f25
def c25_1 := sA c25_0
theorem e25_1 : aI c25_1 = some [oo 2 (.box 31 (.tmp 0)) 0,oo 4 (.assign (.const (.bool false))) 4] := by kernel_rfl
def c25_2 := sB c25_0
def c25_3 := sA c25_2
def c25_4 := sA c25_3
theorem e25_4 : aI c25_4 = some [oo 9 (.move (.tmp 1)) 3,oo 10 (.binOp .eql 3 (.tmp 9) (.const (.int .i64 0)) 3) 4,oo 11 (.move (.tmp 10)) 4,⟨some (11,false),some 12,.fieldAddr 31 (.tmp 2) 4,0⟩,⟨some (11,false),some 13,.load 29 (.tmp 12),29⟩,⟨some (11,false),some 14,.call ⟨.builtin .len,#[(.tmp 13)],#[29]⟩,3⟩,⟨some (11,false),some 15,.binOp .gtr 3 (.tmp 14) (.const (.int .i64 5)) 3,4⟩,oo 16 (.pick (.tmp 11) (.const (.bool true)) (.tmp 15)) 4,oo 17 (.move (.tmp 16)) 4,⟨some (17,false),some 18,.fieldAddr 31 (.tmp 2) 3,0⟩,⟨some (17,false),some 19,.load 28 (.tmp 18),28⟩,⟨some (17,false),some 20,.call ⟨.builtin .len,#[(.tmp 19)],#[28]⟩,3⟩,⟨some (17,false),some 21,.binOp .gtr 3 (.tmp 20) (.const (.int .i64 10)) 3,4⟩,oo 22 (.pick (.tmp 17) (.const (.bool true)) (.tmp 21)) 4,oo 23 (.move (.tmp 22)) 4,⟨some (23,false),some 24,.fieldAddr 31 (.tmp 2) 2,0⟩,⟨some (23,false),some 25,.load 9 (.tmp 24),9⟩,⟨some (23,false),some 26,.call ⟨.builtin .len,#[(.tmp 25)],#[9]⟩,3⟩,⟨some (23,false),some 27,.binOp .gtr 3 (.tmp 26) (.const (.int .i64 100)) 3,4⟩,oo 28 (.pick (.tmp 23) (.const (.bool true)) (.tmp 27)) 4] := by kernel_rfl
def c25_5 := sB c25_3
def c25_6 := cT c25_5
def c25_7 := sA c25_6
theorem e25_7 : aI c25_7 = some [oo 4 (.assign (.const (.bool false))) 4] := by kernel_rfl
def c25_8 := sB c25_6
theorem e25_8 : c25_8 = .ret := by kernel_rfl
theorem e25_6 : c25_6 = .seq c25_7 c25_8 := by kernel_rfl
def c25_9 := cE c25_5
theorem e25_9 : c25_9 = .skip := by kernel_rfl
theorem e25_5 : c25_5 = .cond (.tmp 28) c25_6 c25_9 := by kernel_rfl
theorem e25_3 : c25_3 = .seq c25_4 c25_5 := by kernel_rfl
def c25_10 := sB c25_2
def c25_11 := sA c25_10
def c25_12 := sA c25_11
theorem e25_12 : aI c25_12 = some [oo 29 (.fieldAddr 31 (.tmp 2) 3) 0,oo 30 (.load 28 (.tmp 29)) 28,oo 31 (.call ⟨.builtin .len,#[(.tmp 30)],#[28]⟩) 3,oo 32 (.move (.const (.int .i64 0))) 3] := by kernel_rfl
def c25_13 := sB c25_11
def c25_14 := bB c25_13
def c25_15 := bB c25_14
def c25_16 := sA c25_15
theorem e25_16 : aI c25_16 = some [oo 33 (.binOp .lss 3 (.tmp 32) (.tmp 31) 3) 0] := by kernel_rfl
def c25_17 := sB c25_15
def c25_18 := sA c25_17
def c25_19 := cT c25_18
theorem e25_19 : c25_19 = .skip := by kernel_rfl
def c25_20 := cE c25_18
theorem e25_20 : c25_20 = .exit 0 := by kernel_rfl
theorem e25_18 : c25_18 = .cond (.tmp 33) c25_19 c25_20 := by kernel_rfl
def c25_21 := sB c25_17
def c25_22 := sA c25_21
def c25_23 := bB c25_22
def c25_24 := sA c25_23
theorem e25_24 : aI c25_24 = some [oo 34 (.indexAddr 28 (.tmp 30) (.tmp 32)) 0,oo 35 (.load 9 (.tmp 34)) 9,oo 6 (.assign (.tmp 35)) 9] := by kernel_rfl
def c25_25 := sB c25_23
def c25_26 := sA c25_25
theorem e25_26 : aI c25_26 = some [oo 36 (.move (.tmp 6)) 9,oo 37 (.call ⟨.builtin .len,#[(.tmp 36)],#[9]⟩) 3,oo 38 (.binOp .gtr 3 (.tmp 37) (.const (.int .i64 100)) 3) 4] := by kernel_rfl
def c25_27 := sB c25_25
def c25_28 := cT c25_27
def c25_29 := sA c25_28
theorem e25_29 : aI c25_29 = some [oo 4 (.assign (.const (.bool false))) 4] := by kernel_rfl
def c25_30 := sB c25_28
theorem e25_30 : c25_30 = .ret := by kernel_rfl
theorem e25_28 : c25_28 = .seq c25_29 c25_30 := by kernel_rfl
def c25_31 := cE c25_27
theorem e25_31 : c25_31 = .skip := by kernel_rfl
theorem e25_27 : c25_27 = .cond (.tmp 38) c25_28 c25_31 := by kernel_rfl
theorem e25_25 : c25_25 = .seq c25_26 c25_27 := by kernel_rfl
theorem e25_23 : c25_23 = .seq c25_24 c25_25 := by kernel_rfl
theorem e25_22 : c25_22 = .block 1 c25_23 := by kernel_rfl
def c25_32 := sB c25_21
theorem e25_32 : aI c25_32 = some [oo 39 (.binOp .add 3 (.tmp 32) (.const (.int .i64 1)) 3) 3,oo 32 (.move (.tmp 39)) 3] := by kernel_rfl
theorem e25_21 : c25_21 = .seq c25_22 c25_32 := by kernel_rfl
theorem e25_17 : c25_17 = .seq c25_18 c25_21 := by kernel_rfl
theorem e25_15 : c25_15 = .seq c25_16 c25_17 := by kernel_rfl
theorem e25_14 : c25_14 = .loop c25_15 := by kernel_rfl
theorem e25_13 : c25_13 = .block 0 c25_14 := by kernel_rfl
theorem e25_11 : c25_11 = .seq c25_12 c25_13 := by kernel_rfl
def c25_33 := sB c25_10
def c25_34 := sA c25_33
def c25_35 := sA c25_34
theorem e25_35 : aI c25_35 = some [oo 40 (.fieldAddr 31 (.tmp 2) 4) 0,oo 41 (.load 29 (.tmp 40)) 29,oo 42 (.call ⟨.builtin .len,#[(.tmp 41)],#[29]⟩) 3,oo 43 (.move (.const (.int .i64 0))) 3] := by kernel_rfl
def c25_36 := sB c25_34
def c25_37 := bB c25_36
def c25_38 := bB c25_37
def c25_39 := sA c25_38
theorem e25_39 : aI c25_39 = some [oo 44 (.binOp .lss 3 (.tmp 43) (.tmp 42) 3) 0] := by kernel_rfl
def c25_40 := sB c25_38
def c25_41 := sA c25_40
def c25_42 := cT c25_41
theorem e25_42 : c25_42 = .skip := by kernel_rfl
def c25_43 := cE c25_41
theorem e25_43 : c25_43 = .exit 2 := by kernel_rfl
theorem e25_41 : c25_41 = .cond (.tmp 44) c25_42 c25_43 := by kernel_rfl
def c25_44 := sB c25_40
def c25_45 := sA c25_44
def c25_46 := bB c25_45
def c25_47 := sA c25_46
theorem e25_47 : aI c25_47 = some [oo 45 (.indexAddr 29 (.tmp 41) (.tmp 43)) 0,oo 46 (.load 31 (.tmp 45)) 31,oo 8 (.alloc 31) 0,⟨none,none,.store 31 (.tmp 8) (.tmp 46),0⟩] := by kernel_rfl
def c25_48 := sB c25_46
def c25_49 := sA c25_48
theorem e25_49 : aI c25_49 = some [oo 47 (.load 31 (.tmp 8)) 31,oo 48 (.move (.tmp 1)) 3,oo 49 (.binOp .sub 3 (.tmp 48) (.const (.int .i64 1)) 3) 3,oo 50 (.call ⟨.value (.func 25),(List.toArray [(.tmp 47),(.tmp 49)]),#[31,3]⟩) 4,oo 51 (.unOp .not 4 (.tmp 50)) 4] := by kernel_rfl
def c25_50 := sB c25_48
def c25_51 := cT c25_50
def c25_52 := sA c25_51
theorem e25_52 : aI c25_52 = some [oo 4 (.assign (.const (.bool false))) 4] := by kernel_rfl
def c25_53 := sB c25_51
theorem e25_53 : c25_53 = .ret := by kernel_rfl
theorem e25_51 : c25_51 = .seq c25_52 c25_53 := by kernel_rfl
def c25_54 := cE c25_50
theorem e25_54 : c25_54 = .skip := by kernel_rfl
theorem e25_50 : c25_50 = .cond (.tmp 51) c25_51 c25_54 := by kernel_rfl
theorem e25_48 : c25_48 = .seq c25_49 c25_50 := by kernel_rfl
theorem e25_46 : c25_46 = .seq c25_47 c25_48 := by kernel_rfl
theorem e25_45 : c25_45 = .block 3 c25_46 := by kernel_rfl
def c25_55 := sB c25_44
theorem e25_55 : aI c25_55 = some [oo 52 (.binOp .add 3 (.tmp 43) (.const (.int .i64 1)) 3) 3,oo 43 (.move (.tmp 52)) 3] := by kernel_rfl
theorem e25_44 : c25_44 = .seq c25_45 c25_55 := by kernel_rfl
theorem e25_40 : c25_40 = .seq c25_41 c25_44 := by kernel_rfl
theorem e25_38 : c25_38 = .seq c25_39 c25_40 := by kernel_rfl
theorem e25_37 : c25_37 = .loop c25_38 := by kernel_rfl
theorem e25_36 : c25_36 = .block 2 c25_37 := by kernel_rfl
theorem e25_34 : c25_34 = .seq c25_35 c25_36 := by kernel_rfl
def c25_56 := sB c25_33
def c25_57 := sA c25_56
theorem e25_57 : aI c25_57 = some [oo 4 (.assign (.const (.bool true))) 4] := by kernel_rfl
def c25_58 := sB c25_56
theorem e25_58 : c25_58 = .ret := by kernel_rfl
theorem e25_56 : c25_56 = .seq c25_57 c25_58 := by kernel_rfl
theorem e25_33 : c25_33 = .seq c25_34 c25_56 := by kernel_rfl
theorem e25_10 : c25_10 = .seq c25_11 c25_33 := by kernel_rfl
theorem e25_2 : c25_2 = .seq c25_3 c25_10 := by kernel_rfl
theorem e25_0 : c25_0 = .seq c25_1 c25_2 := by kernel_rfl
def c26_0 := cK Try.f26
def c26_1 := sA c26_0
theorem e26_1 : aI c26_1 = some [oo 1 (.box 25 (.tmp 0)) 0,oo 2 (.assign (.const (.int .i64 0))) 35] := by kernel_rfl
def c26_2 := sB c26_0
def c26_3 := sA c26_2
theorem e26_3 : aI c26_3 = some [oo 8 (.fieldAddr 25 (.tmp 1) 0) 0,oo 9 (.load 22 (.tmp 8)) 22,oo 10 (.call ⟨.builtin .len,#[(.tmp 9)],#[22]⟩) 3,oo 11 (.binOp .leq 3 (.tmp 10) (.const (.int .i64 32)) 3) 4,oo 12 (.move (.tmp 11)) 4,⟨some (12,true),some 13,.fieldAddr 25 (.tmp 1) 1,0⟩,⟨some (12,true),some 14,.load 23 (.tmp 13),23⟩,⟨some (12,true),some 15,.call ⟨.builtin .len,#[(.tmp 14)],#[23]⟩,3⟩,⟨some (12,true),some 16,.binOp .leq 3 (.tmp 15) (.const (.int .i64 32)) 3,4⟩,oo 17 (.pick (.tmp 12) (.tmp 16) (.const (.bool false))) 4,oo 3 (.assign (.tmp 17)) 4] := by kernel_rfl
def c26_4 := sB c26_2
def c26_5 := sA c26_4
def c26_6 := sA c26_5
theorem e26_6 : aI c26_6 = some [oo 18 (.fieldAddr 25 (.tmp 1) 0) 0,oo 19 (.load 22 (.tmp 18)) 22,oo 20 (.call ⟨.builtin .len,#[(.tmp 19)],#[22]⟩) 3,oo 21 (.move (.const (.int .i64 0))) 3] := by kernel_rfl
def c26_7 := sB c26_5
def c26_8 := bB c26_7
def c26_9 := bB c26_8
def c26_10 := sA c26_9
theorem e26_10 : aI c26_10 = some [oo 22 (.binOp .lss 3 (.tmp 21) (.tmp 20) 3) 0] := by kernel_rfl
def c26_11 := sB c26_9
def c26_12 := sA c26_11
def c26_13 := cT c26_12
theorem e26_13 : c26_13 = .skip := by kernel_rfl
def c26_14 := cE c26_12
theorem e26_14 : c26_14 = .exit 0 := by kernel_rfl
theorem e26_12 : c26_12 = .cond (.tmp 22) c26_13 c26_14 := by kernel_rfl
def c26_15 := sB c26_11
def c26_16 := sA c26_15
def c26_17 := bB c26_16
def c26_18 := sA c26_17
theorem e26_18 : aI c26_18 = some [oo 23 (.indexAddr 22 (.tmp 19) (.tmp 21)) 0,oo 24 (.load 45 (.tmp 23)) 45,oo 5 (.alloc 45) 0,⟨none,none,.store 45 (.tmp 5) (.tmp 24),0⟩] := by kernel_rfl
def c26_19 := sB c26_17
theorem e26_19 : aI c26_19 = some [oo 25 (.move (.tmp 3)) 4,oo 26 (.move (.tmp 25)) 4,⟨some (26,true),some 27,.fieldAddr 45 (.tmp 5) 0,0⟩,⟨some (26,true),some 28,.load 9 (.tmp 27),9⟩,⟨some (26,true),some 29,.call ⟨.value (.func 46),(List.toArray [(.tmp 28)]),#[9]⟩,4⟩,oo 30 (.pick (.tmp 26) (.tmp 29) (.const (.bool false))) 4,oo 31 (.move (.tmp 30)) 4,⟨some (31,true),some 32,.fieldAddr 45 (.tmp 5) 1,0⟩,⟨some (31,true),some 33,.load 43 (.tmp 32),43⟩,⟨some (31,true),some 34,.call ⟨.builtin .len,#[(.tmp 33)],#[43]⟩,3⟩,⟨some (31,true),some 35,.binOp .leq 3 (.tmp 34) (.const (.int .i64 4)) 3,4⟩,oo 36 (.pick (.tmp 31) (.tmp 35) (.const (.bool false))) 4,oo 37 (.move (.tmp 36)) 4,⟨some (37,true),some 38,.fieldAddr 45 (.tmp 5) 1,0⟩,⟨some (37,true),some 39,.load 43 (.tmp 38),43⟩,⟨some (37,true),some 40,.call ⟨.value (.func 47),(List.toArray [(.tmp 39)]),#[43]⟩,4⟩,oo 41 (.pick (.tmp 37) (.tmp 40) (.const (.bool false))) 4,oo 42 (.move (.tmp 41)) 4,⟨some (42,true),some 43,.fieldAddr 45 (.tmp 5) 3,0⟩,⟨some (42,true),some 44,.load 3 (.tmp 43),3⟩,⟨some (42,true),some 45,.buildSlice 43 1 (List.toArray [(0,(.tmp 44))]),43⟩,⟨some (42,true),some 46,.call ⟨.value (.func 47),(List.toArray [(.tmp 45)]),#[43]⟩,4⟩,oo 47 (.pick (.tmp 42) (.tmp 46) (.const (.bool false))) 4,oo 48 (.move (.tmp 47)) 4,⟨some (48,true),some 49,.fieldAddr 45 (.tmp 5) 2,0⟩,⟨some (48,true),some 50,.load 9 (.tmp 49),9⟩,⟨some (48,true),some 51,.call ⟨.value (.func 48),(List.toArray [(.tmp 50)]),#[9]⟩,4⟩,oo 52 (.pick (.tmp 48) (.tmp 51) (.const (.bool false))) 4,oo 3 (.assign (.tmp 52)) 4] := by kernel_rfl
theorem e26_17 : c26_17 = .seq c26_18 c26_19 := by kernel_rfl
theorem e26_16 : c26_16 = .block 1 c26_17 := by kernel_rfl
def c26_20 := sB c26_15
theorem e26_20 : aI c26_20 = some [oo 53 (.binOp .add 3 (.tmp 21) (.const (.int .i64 1)) 3) 3,oo 21 (.move (.tmp 53)) 3] := by kernel_rfl
theorem e26_15 : c26_15 = .seq c26_16 c26_20 := by kernel_rfl
theorem e26_11 : c26_11 = .seq c26_12 c26_15 := by kernel_rfl
theorem e26_9 : c26_9 = .seq c26_10 c26_11 := by kernel_rfl
theorem e26_8 : c26_8 = .loop c26_9 := by kernel_rfl
theorem e26_7 : c26_7 = .block 0 c26_8 := by kernel_rfl
theorem e26_5 : c26_5 = .seq c26_6 c26_7 := by kernel_rfl
def c26_21 := sB c26_4
def c26_22 := sA c26_21
def c26_23 := sA c26_22
theorem e26_23 : aI c26_23 = some [oo 54 (.fieldAddr 25 (.tmp 1) 1) 0,oo 55 (.load 23 (.tmp 54)) 23,oo 56 (.call ⟨.builtin .len,#[(.tmp 55)],#[23]⟩) 3,oo 57 (.move (.const (.int .i64 0))) 3] := by kernel_rfl
def c26_24 := sB c26_22
def c26_25 := bB c26_24
def c26_26 := bB c26_25
def c26_27 := sA c26_26
theorem e26_27 : aI c26_27 = some [oo 58 (.binOp .lss 3 (.tmp 57) (.tmp 56) 3) 0] := by kernel_rfl
def c26_28 := sB c26_26
def c26_29 := sA c26_28
def c26_30 := cT c26_29
theorem e26_30 : c26_30 = .skip := by kernel_rfl
def c26_31 := cE c26_29
theorem e26_31 : c26_31 = .exit 2 := by kernel_rfl
theorem e26_29 : c26_29 = .cond (.tmp 58) c26_30 c26_31 := by kernel_rfl
def c26_32 := sB c26_28
def c26_33 := sA c26_32
def c26_34 := bB c26_33
def c26_35 := sA c26_34
theorem e26_35 : aI c26_35 = some [oo 59 (.indexAddr 23 (.tmp 55) (.tmp 57)) 0,oo 60 (.load 33 (.tmp 59)) 33,oo 7 (.alloc 33) 0,⟨none,none,.store 33 (.tmp 7) (.tmp 60),0⟩] := by kernel_rfl
def c26_36 := sB c26_34
theorem e26_36 : aI c26_36 = some [oo 61 (.move (.tmp 3)) 4,oo 62 (.move (.tmp 61)) 4,⟨some (62,true),some 63,.fieldAddr 33 (.tmp 7) 0,0⟩,⟨some (62,true),some 64,.load 9 (.tmp 63),9⟩,⟨some (62,true),some 65,.call ⟨.value (.func 46),(List.toArray [(.tmp 64)]),#[9]⟩,4⟩,oo 66 (.pick (.tmp 62) (.tmp 65) (.const (.bool false))) 4,oo 67 (.move (.tmp 66)) 4,⟨some (67,true),some 68,.fieldAddr 33 (.tmp 7) 1,0⟩,⟨some (67,true),some 69,.load 28 (.tmp 68),28⟩,⟨some (67,true),some 70,.call ⟨.value (.func 49),(List.toArray [(.tmp 69)]),#[28]⟩,4⟩,oo 71 (.pick (.tmp 67) (.tmp 70) (.const (.bool false))) 4,oo 72 (.move (.tmp 71)) 4,⟨some (72,true),some 73,.fieldAddr 33 (.tmp 7) 2,0⟩,⟨some (72,true),some 74,.load 31 (.tmp 73),31⟩,⟨some (72,true),some 75,.call ⟨.value (.func 21),(List.toArray [(.tmp 74)]),#[31]⟩,4⟩,oo 76 (.pick (.tmp 72) (.tmp 75) (.const (.bool false))) 4,oo 3 (.assign (.tmp 76)) 4] := by kernel_rfl
theorem e26_34 : c26_34 = .seq c26_35 c26_36 := by kernel_rfl
theorem e26_33 : c26_33 = .block 3 c26_34 := by kernel_rfl
def c26_37 := sB c26_32
theorem e26_37 : aI c26_37 = some [oo 77 (.binOp .add 3 (.tmp 57) (.const (.int .i64 1)) 3) 3,oo 57 (.move (.tmp 77)) 3] := by kernel_rfl
theorem e26_32 : c26_32 = .seq c26_33 c26_37 := by kernel_rfl
theorem e26_28 : c26_28 = .seq c26_29 c26_32 := by kernel_rfl
theorem e26_26 : c26_26 = .seq c26_27 c26_28 := by kernel_rfl
theorem e26_25 : c26_25 = .loop c26_26 := by kernel_rfl
theorem e26_24 : c26_24 = .block 2 c26_25 := by kernel_rfl
theorem e26_22 : c26_22 = .seq c26_23 c26_24 := by kernel_rfl
def c26_38 := sB c26_21
def c26_39 := sA c26_38
def c26_40 := sA c26_39
theorem e26_40 : aI c26_40 = some [oo 78 (.move (.tmp 3)) 4,oo 79 (.unOp .not 4 (.tmp 78)) 4] := by kernel_rfl
def c26_41 := sB c26_39
def c26_42 := cT c26_41
def c26_43 := sA c26_42
theorem e26_43 : aI c26_43 = some [oo 2 (.assign (.const (.int .i64 1))) 35] := by kernel_rfl
def c26_44 := sB c26_42
theorem e26_44 : c26_44 = .ret := by kernel_rfl
theorem e26_42 : c26_42 = .seq c26_43 c26_44 := by kernel_rfl
def c26_45 := cE c26_41
theorem e26_45 : c26_45 = .skip := by kernel_rfl
theorem e26_41 : c26_41 = .cond (.tmp 79) c26_42 c26_45 := by kernel_rfl
theorem e26_39 : c26_39 = .seq c26_40 c26_41 := by kernel_rfl
def c26_46 := sB c26_38
def c26_47 := sA c26_46
theorem e26_47 : aI c26_47 = some [oo 2 (.assign (.const (.int .i64 0))) 35] := by kernel_rfl
def c26_48 := sB c26_46
theorem e26_48 : c26_48 = .ret := by kernel_rfl
theorem e26_46 : c26_46 = .seq c26_47 c26_48 := by kernel_rfl
theorem e26_38 : c26_38 = .seq c26_39 c26_46 := by kernel_rfl
theorem e26_21 : c26_21 = .seq c26_22 c26_38 := by kernel_rfl
theorem e26_4 : c26_4 = .seq c26_5 c26_21 := by kernel_rfl
theorem e26_2 : c26_2 = .seq c26_3 c26_4 := by kernel_rfl
theorem e26_0 : c26_0 = .seq c26_1 c26_2 := by kernel_rfl
def c27_0 := cK Try.f27
def c27_1 := sA c27_0
theorem e27_1 : aI c27_1 = some [oo 6 (.assign (.const (.slice none 0 0))) 43,oo 7 (.assign (.const (.int .i64 0))) 35] := by kernel_rfl
def c27_2 := sB c27_0
def c27_3 := sA c27_2
theorem e27_3 : aI c27_3 = some [oo 11 (.move (.tmp 1)) 9,oo 12 (.move (.tmp 0)) 70,oo 13 (.call ⟨.value (.func 13),(List.toArray [(.tmp 11),(.tmp 12)]),#[9,22]⟩) 46,oo 10 (.move (.tmp 13)) 46,oo 14 (.extract (.tmp 10) 0) 45,oo 15 (.extract (.tmp 10) 1) 4,oo 8 (.alloc 45) 0,⟨none,none,.store 45 (.tmp 8) (.tmp 14),0⟩,oo 9 (.assign (.tmp 15)) 4] := by kernel_rfl
def c27_4 := sB c27_2
def c27_5 := sA c27_4
def c27_6 := bB c27_5
def c27_7 := sA c27_6
theorem e27_7 : aI c27_7 = some [oo 17 (.move (.tmp 9)) 4,oo 18 (.unOp .not 4 (.tmp 17)) 4,oo 16 (.assign (.tmp 18)) 4] := by kernel_rfl
def c27_8 := sB c27_6
def c27_9 := cT c27_8
def c27_10 := sA c27_9
theorem e27_10 : aI c27_10 = some [oo 6 (.assign (.const (.slice none 0 0))) 43,oo 7 (.assign (.const (.int .i64 7))) 35] := by kernel_rfl
def c27_11 := sB c27_9
theorem e27_11 : c27_11 = .ret := by kernel_rfl
theorem e27_9 : c27_9 = .seq c27_10 c27_11 := by kernel_rfl
def c27_12 := cE c27_8
def c27_13 := sA c27_12
theorem e27_13 : aI c27_13 = some [oo 20 (.fieldAddr 45 (.tmp 8) 1) 0,oo 21 (.load 43 (.tmp 20)) 43,oo 22 (.call ⟨.builtin .len,#[(.tmp 21)],#[43]⟩) 3,oo 23 (.move (.tmp 2)) 28,oo 24 (.call ⟨.builtin .len,#[(.tmp 23)],#[28]⟩) 3,oo 25 (.binOp .neq 3 (.tmp 22) (.tmp 24) 3) 4,oo 19 (.assign (.tmp 25)) 4] := by kernel_rfl
def c27_14 := sB c27_12
def c27_15 := cT c27_14
def c27_16 := sA c27_15
theorem e27_16 : aI c27_16 = some [oo 6 (.assign (.const (.slice none 0 0))) 43,oo 7 (.assign (.const (.int .i64 8))) 35] := by kernel_rfl
def c27_17 := sB c27_15
theorem e27_17 : c27_17 = .ret := by kernel_rfl
theorem e27_15 : c27_15 = .seq c27_16 c27_17 := by kernel_rfl
def c27_18 := cE c27_14
theorem e27_18 : c27_18 = .skip := by kernel_rfl
theorem e27_14 : c27_14 = .cond (.tmp 19) c27_15 c27_18 := by kernel_rfl
theorem e27_12 : c27_12 = .seq c27_13 c27_14 := by kernel_rfl
theorem e27_8 : c27_8 = .cond (.tmp 16) c27_9 c27_12 := by kernel_rfl
theorem e27_6 : c27_6 = .seq c27_7 c27_8 := by kernel_rfl
theorem e27_5 : c27_5 = .block 0 c27_6 := by kernel_rfl
def c27_19 := sB c27_4
def c27_20 := sA c27_19
theorem e27_20 : aI c27_20 = some [oo 26 (.fieldAddr 45 (.tmp 8) 1) 0,oo 27 (.load 43 (.tmp 26)) 43,oo 6 (.assign (.tmp 27)) 43,oo 7 (.assign (.const (.int .i64 0))) 35] := by kernel_rfl
def c27_21 := sB c27_19
theorem e27_21 : c27_21 = .ret := by kernel_rfl
theorem e27_19 : c27_19 = .seq c27_20 c27_21 := by kernel_rfl
theorem e27_4 : c27_4 = .seq c27_5 c27_19 := by kernel_rfl
theorem e27_2 : c27_2 = .seq c27_3 c27_4 := by kernel_rfl
theorem e27_0 : c27_0 = .seq c27_1 c27_2 := by kernel_rfl
def c28_0 := cK Try.f28
def c28_1 := sA c28_0
theorem e28_1 : aI c28_1 = some [oo 4 (.assign (.const (.bool false))) 4] := by kernel_rfl
def c28_2 := sB c28_0
def c28_3 := sA c28_2
theorem e28_3 : aI c28_3 = some [oo 5 (.move (.tmp 0)) 28,oo 6 (.move (.tmp 1)) 9,oo 7 (.call ⟨.value (.func 50),(List.toArray [(.tmp 5),(.tmp 6)]),#[28,9]⟩) 3,oo 8 (.binOp .geq 3 (.tmp 7) (.const (.int .i64 0)) 3) 4,oo 4 (.assign (.tmp 8)) 4] := by kernel_rfl
def c28_4 := sB c28_2
theorem e28_4 : c28_4 = .ret := by kernel_rfl
theorem e28_2 : c28_2 = .seq c28_3 c28_4 := by kernel_rfl
theorem e28_0 : c28_0 = .seq c28_1 c28_2 := by kernel_rfl
def c29_0 := cK Try.f29
def c29_1 := sA c29_0
theorem e29_1 : aI c29_1 = some [oo 5 (.box 28 (.tmp 2)) 0,oo 6 (.assign (.const (.int .i64 0))) 35] := by kernel_rfl
def c29_2 := sB c29_0
def c29_3 := sA c29_2
def o29_3 : List COp := [oo 13 (.move (.tmp 0)) 69,oo 14 (.nilCheck (.tmp 13)) 0,oo 15 (.fieldAddr 72 (.tmp 14) 0) 0,oo 16 (.load 70 (.tmp 15)) 70,oo 17 (.move (.tmp 1)) 9,oo 18 (.load 28 (.tmp 5)) 28,oo 19 (.call ⟨.value (.func 27),(List.toArray [(.tmp 16),(.tmp 17),(.tmp 18)]),#[70,9,28]⟩) 73,oo 12 (.move (.tmp 19)) 73,oo 20 (.extract (.tmp 12) 0) 43,oo 21 (.extract (.tmp 12) 1) 35,oo 7 (.assign (.tmp 20)) 43,oo 8 (.assign (.tmp 21)) 35]
def d29_3 : List (List Nat) := [[],[0],[1],[2],[],[],[3,4,5],[6],[7],[7],[8,6,0,1,2,3,4,5,6,7,8],[9,10,0,1,2,3,4,5,6,7,8,9,10]]
theorem e29_3 : rDrw c29_3 = some (o29_3,d29_3) := by kernel_rfl
theorem k29_3 : chkCs o29_3 d29_3 X29.fn.ntmps [6] [[(0,false),(1,false),(2,false),(3,false),(4,false),(5,false),(6,true),(7,false),(8,false),(9,false),(10,false),(11,false)]] = true := by kernel_rfl
theorem m29_3 : chkM [0,1,2,3,4,5,6,7,8,9,10,11] [0,1,2,3,4,5,6,7,8,10,9,11] c29_3 = true := by kernel_rfl
def c29_4 := sB c29_2
def c29_5 := sA c29_4
def c29_6 := sA c29_5
theorem e29_6 : aI c29_6 = some [oo 22 (.move (.tmp 7)) 43,oo 23 (.call ⟨.builtin .len,#[(.tmp 22)],#[43]⟩) 3,oo 24 (.move (.const (.int .i64 0))) 3] := by kernel_rfl
def c29_7 := sB c29_5
def c29_8 := bB c29_7
def c29_9 := bB c29_8
def c29_10 := sA c29_9
theorem e29_10 : aI c29_10 = some [oo 25 (.binOp .lss 3 (.tmp 24) (.tmp 23) 3) 0] := by kernel_rfl
def c29_11 := sB c29_9
def c29_12 := sA c29_11
def c29_13 := cT c29_12
theorem e29_13 : c29_13 = .skip := by kernel_rfl
def c29_14 := cE c29_12
theorem e29_14 : c29_14 = .exit 0 := by kernel_rfl
theorem e29_12 : c29_12 = .cond (.tmp 25) c29_13 c29_14 := by kernel_rfl
def c29_15 := sB c29_11
def c29_16 := sA c29_15
def c29_17 := bB c29_16
def c29_18 := sA c29_17
theorem e29_18 : aI c29_18 = some [oo 26 (.move (.tmp 24)) 3,oo 27 (.indexAddr 43 (.tmp 22) (.tmp 24)) 0,oo 28 (.load 3 (.tmp 27)) 3,oo 9 (.alloc 3) 0,⟨none,none,.store 3 (.tmp 9) (.tmp 26),0⟩,oo 10 (.assign (.tmp 28)) 3] := by kernel_rfl
def c29_19 := sB c29_17
def c29_20 := sA c29_19
theorem e29_20 : aI c29_20 = some [oo 29 (.move (.tmp 0)) 69,oo 30 (.nilCheck (.tmp 29)) 0,oo 31 (.fieldAddr 72 (.tmp 30) 1) 0,oo 32 (.load 34 (.tmp 31)) 34,oo 33 (.makeFunc (.func 52) (List.toArray []) (List.toArray [(.tmp 5),(.tmp 9)])) 104,oo 34 (.call ⟨.value (.func 51),(List.toArray [(.tmp 32),(.tmp 33)]),#[34,104]⟩) 3,oo 11 (.assign (.tmp 34)) 3] := by kernel_rfl
def c29_21 := sB c29_19
def c29_22 := sA c29_21
theorem e29_22 : aI c29_22 = some [oo 35 (.move (.tmp 11)) 3,oo 36 (.binOp .lss 3 (.tmp 35) (.const (.int .i64 0)) 3) 4] := by kernel_rfl
def c29_23 := sB c29_21
def c29_24 := cT c29_23
def o29_24 : List COp := [oo 37 (.move (.tmp 0)) 69,oo 38 (.move (.tmp 0)) 69,oo 39 (.nilCheck (.tmp 38)) 0,oo 40 (.fieldAddr 72 (.tmp 39) 1) 0,oo 41 (.load 34 (.tmp 40)) 34,oo 42 (.load 28 (.tmp 5)) 28,oo 43 (.load 3 (.tmp 9)) 3,oo 44 (.indexAddr 28 (.tmp 42) (.tmp 43)) 0,oo 45 (.load 9 (.tmp 44)) 9,oo 46 (.move (.tmp 10)) 3,oo 47 (.build 39 (List.toArray [(0,(.tmp 45)),(1,(.tmp 46))])) 39,oo 48 (.buildSlice 34 1 (List.toArray [(0,(.tmp 47))])) 34,oo 49 (.call ⟨.builtin .append,#[(.tmp 41),(.tmp 48)],#[34,34]⟩) 34,oo 50 (.nilCheck (.tmp 37)) 0,oo 51 (.fieldAddr 72 (.tmp 50) 1) 0,⟨none,none,.store 34 (.tmp 51) (.tmp 49),0⟩]
def d29_24 : List (List Nat) := [[],[],[1],[2],[3],[],[],[5,6],[7],[],[8,9],[10],[4,11],[0,0,1,2,3,4,5,6,7,8,9,10,11,12],[13,0,1,2,3,4,5,6,7,8,9,10,11,12],[14,12,12,0,1,2,3,4,5,6,7,8,9,10,11,12]]
theorem e29_24 : rDrw c29_24 = some (o29_24,d29_24) := by kernel_rfl
theorem k29_24 : chkCs o29_24 d29_24 X29.fn.ntmps [11,12,15] [[(0,false),(1,false),(2,false),(3,false),(4,false),(5,false),(6,false),(7,false),(8,false),(9,false),(10,false),(11,true),(12,true),(13,false),(14,false),(15,true)]] = true := by kernel_rfl
theorem m29_24 : chkM [0,1,2,3,4,5,6,7,8,9,10,11,12,13,14,15] [0,1,2,3,4,5,6,7,8,9,10,11,12,13,14,15] c29_24 = true := by kernel_rfl
def c29_25 := cE c29_23
def c29_26 := sA c29_25
theorem e29_26 : aI c29_26 = some [oo 52 (.move (.tmp 0)) 69,oo 53 (.nilCheck (.tmp 52)) 0,oo 54 (.fieldAddr 72 (.tmp 53) 1) 0,oo 55 (.load 34 (.tmp 54)) 34,oo 56 (.move (.tmp 11)) 3,oo 57 (.indexAddr 34 (.tmp 55) (.tmp 56)) 0,oo 58 (.fieldAddr 39 (.tmp 57) 1) 0,oo 59 (.load 3 (.tmp 58)) 3,oo 60 (.move (.tmp 10)) 3,oo 61 (.binOp .neq 3 (.tmp 59) (.tmp 60) 3) 4] := by kernel_rfl
def c29_27 := sB c29_25
def c29_28 := cT c29_27
def c29_29 := sA c29_28
theorem e29_29 : aI c29_29 = some [oo 6 (.assign (.const (.int .i64 4))) 35] := by kernel_rfl
def c29_30 := sB c29_28
theorem e29_30 : c29_30 = .ret := by kernel_rfl
theorem e29_28 : c29_28 = .seq c29_29 c29_30 := by kernel_rfl
def c29_31 := cE c29_27
theorem e29_31 : c29_31 = .skip := by kernel_rfl
theorem e29_27 : c29_27 = .cond (.tmp 61) c29_28 c29_31 := by kernel_rfl
theorem e29_25 : c29_25 = .seq c29_26 c29_27 := by kernel_rfl
theorem e29_23 : c29_23 = .cond (.tmp 36) c29_24 c29_25 := by kernel_rfl
theorem e29_21 : c29_21 = .seq c29_22 c29_23 := by kernel_rfl
theorem e29_19 : c29_19 = .seq c29_20 c29_21 := by kernel_rfl
theorem e29_17 : c29_17 = .seq c29_18 c29_19 := by kernel_rfl
theorem e29_16 : c29_16 = .block 1 c29_17 := by kernel_rfl
def c29_32 := sB c29_15
theorem e29_32 : aI c29_32 = some [oo 62 (.binOp .add 3 (.tmp 24) (.const (.int .i64 1)) 3) 3,oo 24 (.move (.tmp 62)) 3] := by kernel_rfl
theorem e29_15 : c29_15 = .seq c29_16 c29_32 := by kernel_rfl
theorem e29_11 : c29_11 = .seq c29_12 c29_15 := by kernel_rfl
theorem e29_9 : c29_9 = .seq c29_10 c29_11 := by kernel_rfl
theorem e29_8 : c29_8 = .loop c29_9 := by kernel_rfl
theorem e29_7 : c29_7 = .block 0 c29_8 := by kernel_rfl
theorem e29_5 : c29_5 = .seq c29_6 c29_7 := by kernel_rfl
def c29_33 := sB c29_4
def c29_34 := sA c29_33
theorem e29_34 : aI c29_34 = some [oo 63 (.move (.tmp 8)) 35,oo 6 (.assign (.tmp 63)) 35] := by kernel_rfl
def c29_35 := sB c29_33
theorem e29_35 : c29_35 = .ret := by kernel_rfl
theorem e29_33 : c29_33 = .seq c29_34 c29_35 := by kernel_rfl
theorem e29_4 : c29_4 = .seq c29_5 c29_33 := by kernel_rfl
theorem e29_2 : c29_2 = .seq c29_3 c29_4 := by kernel_rfl
theorem e29_0 : c29_0 = .seq c29_1 c29_2 := by kernel_rfl
def c30_0 := cK Try.f30
def c30_1 := sA c30_0
theorem e30_1 : aI c30_1 = some [oo 1 (.box 31 (.tmp 0)) 0,oo 2 (.assign (.const (.bool false))) 4] := by kernel_rfl
def c30_2 := sB c30_0
def c30_3 := sA c30_2
theorem e30_3 : aI c30_3 = some [oo 4 (.makeFunc (.func 53) (List.toArray []) (List.toArray [(.tmp 1)])) 59,oo 3 (.assign (.tmp 4)) 59] := by kernel_rfl
def c30_4 := sB c30_2
def c30_5 := sA c30_4
def c30_6 := sA c30_5
theorem e30_6 : aI c30_6 = some [oo 5 (.fieldAddr 31 (.tmp 1) 0) 0,oo 6 (.load 3 (.tmp 5)) 3,oo 7 (.binOp .eql 3 (.tmp 6) (.const (.int .i64 7)) 3) 4,oo 8 (.move (.tmp 7)) 4,⟨some (8,true),some 9,.load 31 (.tmp 1),31⟩,⟨some (8,true),some 10,.call ⟨.value (.func 12),(List.toArray [(.tmp 9)]),#[31]⟩,29⟩,⟨some (8,true),some 11,.move (.tmp 3),59⟩,⟨some (8,true),some 12,.call ⟨.value (.func 54),(List.toArray [(.tmp 10),(.tmp 11)]),#[29,59]⟩,4⟩,⟨some (8,true),some 13,.unOp .not 4 (.tmp 12),4⟩,oo 14 (.pick (.tmp 8) (.tmp 13) (.const (.bool false))) 4] := by kernel_rfl
def c30_7 := sB c30_5
def c30_8 := cT c30_7
def c30_9 := sA c30_8
theorem e30_9 : aI c30_9 = some [oo 2 (.assign (.const (.bool false))) 4] := by kernel_rfl
def c30_10 := sB c30_8
theorem e30_10 : c30_10 = .ret := by kernel_rfl
theorem e30_8 : c30_8 = .seq c30_9 c30_10 := by kernel_rfl
def c30_11 := cE c30_7
theorem e30_11 : c30_11 = .skip := by kernel_rfl
theorem e30_7 : c30_7 = .cond (.tmp 14) c30_8 c30_11 := by kernel_rfl
theorem e30_5 : c30_5 = .seq c30_6 c30_7 := by kernel_rfl
def c30_12 := sB c30_4
def c30_13 := sA c30_12
theorem e30_13 : aI c30_13 = some [oo 15 (.fieldAddr 31 (.tmp 1) 4) 0,oo 16 (.load 29 (.tmp 15)) 29,oo 17 (.call ⟨.value (.func 54),(List.toArray [(.tmp 16),(.func 55)]),#[29,59]⟩) 4,oo 18 (.unOp .not 4 (.tmp 17)) 4,oo 2 (.assign (.tmp 18)) 4] := by kernel_rfl
def c30_14 := sB c30_12
theorem e30_14 : c30_14 = .ret := by kernel_rfl
theorem e30_12 : c30_12 = .seq c30_13 c30_14 := by kernel_rfl
theorem e30_4 : c30_4 = .seq c30_5 c30_12 := by kernel_rfl
theorem e30_2 : c30_2 = .seq c30_3 c30_4 := by kernel_rfl
theorem e30_0 : c30_0 = .seq c30_1 c30_2 := by kernel_rfl
def c31_0 := cK Try.f31
def c31_1 := sA c31_0
theorem e31_1 : aI c31_1 = some [oo 4 (.assign (.const (.int .i64 0))) 3] := by kernel_rfl
def c31_2 := sB c31_0
def c31_3 := sA c31_2
def c31_4 := sA c31_3
theorem e31_4 : aI c31_4 = some [oo 6 (.move (.tmp 0)) 22,oo 7 (.call ⟨.builtin .len,#[(.tmp 6)],#[22]⟩) 3,oo 8 (.move (.const (.int .i64 0))) 3] := by kernel_rfl
def c31_5 := sB c31_3
def c31_6 := bB c31_5
def c31_7 := bB c31_6
def c31_8 := sA c31_7
theorem e31_8 : aI c31_8 = some [oo 9 (.binOp .lss 3 (.tmp 8) (.tmp 7) 3) 0] := by kernel_rfl
def c31_9 := sB c31_7
def c31_10 := sA c31_9
def c31_11 := cT c31_10
theorem e31_11 : c31_11 = .skip := by kernel_rfl
def c31_12 := cE c31_10
theorem e31_12 : c31_12 = .exit 0 := by kernel_rfl
theorem e31_10 : c31_10 = .cond (.tmp 9) c31_11 c31_12 := by kernel_rfl
def c31_13 := sB c31_9
def c31_14 := sA c31_13
def c31_15 := bB c31_14
def c31_16 := sA c31_15
theorem e31_16 : aI c31_16 = some [oo 10 (.move (.tmp 8)) 3,oo 5 (.assign (.tmp 10)) 3] := by kernel_rfl
def c31_17 := sB c31_15
def c31_18 := sA c31_17
theorem e31_18 : aI c31_18 = some [oo 11 (.move (.tmp 1)) 77,oo 12 (.move (.tmp 0)) 22,oo 13 (.move (.tmp 5)) 3,oo 14 (.indexAddr 22 (.tmp 12) (.tmp 13)) 0,oo 15 (.load 45 (.tmp 14)) 45,oo 16 (.call ⟨.value (.tmp 11),(List.toArray [(.tmp 15)]),#[45]⟩) 4] := by kernel_rfl
def c31_19 := sB c31_17
def c31_20 := cT c31_19
def c31_21 := sA c31_20
theorem e31_21 : aI c31_21 = some [oo 17 (.move (.tmp 5)) 3,oo 4 (.assign (.tmp 17)) 3] := by kernel_rfl
def c31_22 := sB c31_20
theorem e31_22 : c31_22 = .ret := by kernel_rfl
theorem e31_20 : c31_20 = .seq c31_21 c31_22 := by kernel_rfl
def c31_23 := cE c31_19
theorem e31_23 : c31_23 = .skip := by kernel_rfl
theorem e31_19 : c31_19 = .cond (.tmp 16) c31_20 c31_23 := by kernel_rfl
theorem e31_17 : c31_17 = .seq c31_18 c31_19 := by kernel_rfl
theorem e31_15 : c31_15 = .seq c31_16 c31_17 := by kernel_rfl
theorem e31_14 : c31_14 = .block 1 c31_15 := by kernel_rfl
def c31_24 := sB c31_13
theorem e31_24 : aI c31_24 = some [oo 18 (.binOp .add 3 (.tmp 8) (.const (.int .i64 1)) 3) 3,oo 8 (.move (.tmp 18)) 3] := by kernel_rfl
theorem e31_13 : c31_13 = .seq c31_14 c31_24 := by kernel_rfl
theorem e31_9 : c31_9 = .seq c31_10 c31_13 := by kernel_rfl
theorem e31_7 : c31_7 = .seq c31_8 c31_9 := by kernel_rfl
theorem e31_6 : c31_6 = .loop c31_7 := by kernel_rfl
theorem e31_5 : c31_5 = .block 0 c31_6 := by kernel_rfl
theorem e31_3 : c31_3 = .seq c31_4 c31_5 := by kernel_rfl
def c31_25 := sB c31_2
def c31_26 := sA c31_25
theorem e31_26 : aI c31_26 = some [oo 4 (.assign (.const (.int .i64 (-1)))) 3] := by kernel_rfl
def c31_27 := sB c31_25
theorem e31_27 : c31_27 = .ret := by kernel_rfl
theorem e31_25 : c31_25 = .seq c31_26 c31_27 := by kernel_rfl
theorem e31_2 : c31_2 = .seq c31_3 c31_25 := by kernel_rfl
theorem e31_0 : c31_0 = .seq c31_1 c31_2 := by kernel_rfl
def c32_0 := cK Try.f32
def c32_1 := sA c32_0
theorem e32_1 : aI c32_1 = some [oo 2 (.box 45 (.tmp 0)) 0,oo 3 (.assign (.const (.bool false))) 4] := by kernel_rfl
def c32_2 := sB c32_0
def c32_3 := sA c32_2
theorem e32_3 : aI c32_3 = some [oo 4 (.fieldAddr 45 (.tmp 2) 0) 0,oo 5 (.load 9 (.tmp 4)) 9,oo 6 (.load 9 (.tmp 1)) 9,oo 7 (.binOp .eql 9 (.tmp 5) (.tmp 6) 9) 4,oo 3 (.assign (.tmp 7)) 4] := by kernel_rfl
def c32_4 := sB c32_2
theorem e32_4 : c32_4 = .ret := by kernel_rfl
theorem e32_2 : c32_2 = .seq c32_3 c32_4 := by kernel_rfl
theorem e32_0 : c32_0 = .seq c32_1 c32_2 := by kernel_rfl
def c33_0 := cK Try.f33
def c33_1 := sA c33_0
theorem e33_1 : aI c33_1 = some [oo 1 (.box 45 (.tmp 0)) 0,oo 2 (.assign (.const (.slice none 0 0))) 78,oo 3 (.assign (.const (.int .i64 0))) 35] := by kernel_rfl
def c33_2 := sB c33_0
def c33_3 := sA c33_2
theorem e33_3 : aI c33_3 = some [oo 7 (.fieldAddr 45 (.tmp 1) 2) 0,oo 8 (.load 9 (.tmp 7)) 9,oo 9 (.fieldAddr 45 (.tmp 1) 1) 0,oo 10 (.load 43 (.tmp 9)) 43,oo 11 (.call ⟨.builtin .len,#[(.tmp 10)],#[43]⟩) 3,oo 12 (.fieldAddr 45 (.tmp 1) 3) 0,oo 13 (.load 3 (.tmp 12)) 3,oo 14 (.call ⟨.value (.func 56),(List.toArray [(.tmp 8),(.tmp 11),(.tmp 13)]),#[9,3,3]⟩) 79,oo 6 (.move (.tmp 14)) 79,oo 15 (.extract (.tmp 6) 0) 78,oo 16 (.extract (.tmp 6) 1) 35,oo 4 (.assign (.tmp 15)) 78,oo 5 (.assign (.tmp 16)) 35] := by kernel_rfl
def c33_4 := sB c33_2
def c33_5 := sA c33_4
def c33_6 := sA c33_5
theorem e33_6 : aI c33_6 = some [oo 17 (.move (.tmp 5)) 35,oo 18 (.binOp .eql 35 (.tmp 17) (.const (.int .i64 0)) 35) 4] := by kernel_rfl
def c33_7 := sB c33_5
def c33_8 := cT c33_7
theorem e33_8 : aI c33_8 = some [oo 19 (.fieldAddr 45 (.tmp 1) 1) 0,oo 20 (.load 43 (.tmp 19)) 43,oo 21 (.move (.tmp 4)) 78,oo 22 (.call ⟨.value (.func 57),(List.toArray [(.tmp 20),(.tmp 21)]),#[43,78]⟩) 35,oo 5 (.assign (.tmp 22)) 35] := by kernel_rfl
def c33_9 := cE c33_7
theorem e33_9 : c33_9 = .skip := by kernel_rfl
theorem e33_7 : c33_7 = .cond (.tmp 18) c33_8 c33_9 := by kernel_rfl
theorem e33_5 : c33_5 = .seq c33_6 c33_7 := by kernel_rfl
def c33_10 := sB c33_4
def c33_11 := sA c33_10
def c33_12 := sA c33_11
theorem e33_12 : aI c33_12 = some [oo 23 (.move (.tmp 5)) 35,oo 24 (.binOp .neq 35 (.tmp 23) (.const (.int .i64 0)) 35) 4] := by kernel_rfl
def c33_13 := sB c33_11
def c33_14 := cT c33_13
def c33_15 := sA c33_14
theorem e33_15 : aI c33_15 = some [oo 25 (.move (.tmp 5)) 35,oo 2 (.assign (.const (.slice none 0 0))) 78,oo 3 (.assign (.tmp 25)) 35] := by kernel_rfl
def c33_16 := sB c33_14
theorem e33_16 : c33_16 = .ret := by kernel_rfl
theorem e33_14 : c33_14 = .seq c33_15 c33_16 := by kernel_rfl
def c33_17 := cE c33_13
theorem e33_17 : c33_17 = .skip := by kernel_rfl
theorem e33_13 : c33_13 = .cond (.tmp 24) c33_14 c33_17 := by kernel_rfl
theorem e33_11 : c33_11 = .seq c33_12 c33_13 := by kernel_rfl
def c33_18 := sB c33_10
def c33_19 := sA c33_18
theorem e33_19 : aI c33_19 = some [oo 26 (.move (.tmp 4)) 78,oo 2 (.assign (.tmp 26)) 78,oo 3 (.assign (.const (.int .i64 0))) 35] := by kernel_rfl
def c33_20 := sB c33_18
theorem e33_20 : c33_20 = .ret := by kernel_rfl
theorem e33_18 : c33_18 = .seq c33_19 c33_20 := by kernel_rfl
theorem e33_10 : c33_10 = .seq c33_11 c33_18 := by kernel_rfl
theorem e33_4 : c33_4 = .seq c33_5 c33_10 := by kernel_rfl
theorem e33_2 : c33_2 = .seq c33_3 c33_4 := by kernel_rfl
theorem e33_0 : c33_0 = .seq c33_1 c33_2 := by kernel_rfl
def c34_0 := cK Try.f34
def c34_1 := sA c34_0
theorem e34_1 : aI c34_1 = some [oo 2 (.box 31 (.tmp 0)) 0,oo 3 (.box 28 (.tmp 1)) 0,oo 4 (.alloc 31) 0] := by kernel_rfl
def c34_2 := sB c34_0
def c34_3 := sA c34_2
def c34_4 := sA c34_3
theorem e34_4 : aI c34_4 = some [oo 9 (.fieldAddr 31 (.tmp 2) 0) 0,oo 10 (.load 3 (.tmp 9)) 3] := by kernel_rfl
def c34_5 := sB c34_3
def c34_6 := bB c34_5
def c34_7 := sA c34_6
def c34_8 := sA c34_7
theorem e34_8 : aI c34_8 = some [oo 12 (.binOp .eql 3 (.tmp 10) (.const (.int .i64 3)) 3) 4,oo 11 (.assign (.tmp 12)) 4] := by kernel_rfl
def c34_9 := sB c34_7
def c34_10 := cT c34_9
theorem e34_10 : c34_10 = .skip := by kernel_rfl
def c34_11 := cE c34_9
def c34_12 := sA c34_11
theorem e34_12 : aI c34_12 = some [oo 13 (.binOp .eql 3 (.tmp 10) (.const (.int .i64 4)) 3) 4,oo 11 (.assign (.tmp 13)) 4] := by kernel_rfl
def c34_13 := sB c34_11
def c34_14 := cT c34_13
theorem e34_14 : c34_14 = .skip := by kernel_rfl
def c34_15 := cE c34_13
theorem e34_15 : aI c34_15 = some [oo 14 (.binOp .eql 3 (.tmp 10) (.const (.int .i64 6)) 3) 4,oo 11 (.assign (.tmp 14)) 4] := by kernel_rfl
theorem e34_13 : c34_13 = .cond (.tmp 11) c34_14 c34_15 := by kernel_rfl
theorem e34_11 : c34_11 = .seq c34_12 c34_13 := by kernel_rfl
theorem e34_9 : c34_9 = .cond (.tmp 11) c34_10 c34_11 := by kernel_rfl
theorem e34_7 : c34_7 = .seq c34_8 c34_9 := by kernel_rfl
def c34_16 := sB c34_6
def c34_17 := cT c34_16
def c34_18 := sA c34_17
theorem e34_18 : aI c34_18 = some [oo 15 (.fieldAddr 31 (.tmp 2) 4) 0,oo 16 (.load 29 (.tmp 15)) 29,oo 17 (.call ⟨.value (.func 58),(List.toArray [(.tmp 16)]),#[29]⟩) 29,oo 5 (.assign (.tmp 17)) 29] := by kernel_rfl
def c34_19 := sB c34_17
def c34_20 := sA c34_19
def c34_21 := sA c34_20
theorem e34_21 : aI c34_21 = some [oo 18 (.move (.tmp 5)) 29,oo 19 (.call ⟨.builtin .len,#[(.tmp 18)],#[29]⟩) 3,oo 20 (.move (.const (.int .i64 0))) 3] := by kernel_rfl
def c34_22 := sB c34_20
def c34_23 := bB c34_22
def c34_24 := bB c34_23
def c34_25 := sA c34_24
theorem e34_25 : aI c34_25 = some [oo 21 (.binOp .lss 3 (.tmp 20) (.tmp 19) 3) 0] := by kernel_rfl
def c34_26 := sB c34_24
def c34_27 := sA c34_26
def c34_28 := cT c34_27
theorem e34_28 : c34_28 = .skip := by kernel_rfl
def c34_29 := cE c34_27
theorem e34_29 : c34_29 = .exit 1 := by kernel_rfl
theorem e34_27 : c34_27 = .cond (.tmp 21) c34_28 c34_29 := by kernel_rfl
def c34_30 := sB c34_26
def c34_31 := sA c34_30
def c34_32 := bB c34_31
def c34_33 := sA c34_32
theorem e34_33 : aI c34_33 = some [oo 22 (.move (.tmp 20)) 3,oo 6 (.assign (.tmp 22)) 3] := by kernel_rfl
def c34_34 := sB c34_32
def o34_34 : List COp := [oo 23 (.move (.tmp 5)) 29,oo 24 (.move (.tmp 6)) 3,oo 25 (.move (.tmp 5)) 29,oo 26 (.move (.tmp 6)) 3,oo 27 (.indexAddr 29 (.tmp 25) (.tmp 26)) 0,oo 28 (.load 31 (.tmp 27)) 31,oo 29 (.load 28 (.tmp 3)) 28,oo 30 (.call ⟨.value (.func 34),(List.toArray [(.tmp 28),(.tmp 29)]),#[31,28]⟩) 31,oo 31 (.indexAddr 29 (.tmp 23) (.tmp 24)) 0,⟨none,none,.store 31 (.tmp 31) (.tmp 30),0⟩]
def d34_34 : List (List Nat) := [[],[],[],[],[2,3],[4],[],[5,6],[0,1,0,1,2,3,4,5,6,7],[8,7,7,0,1,2,3,4,5,6,7]]
theorem e34_34 : rDrw c34_34 = some (o34_34,d34_34) := by kernel_rfl
theorem k34_34 : chkCs o34_34 d34_34 X34.fn.ntmps [7,9] [[(0,false),(1,false),(2,false),(3,false),(4,false),(5,false),(6,false),(7,true),(8,false),(9,true)]] = true := by kernel_rfl
theorem m34_34 : chkM [0,1,2,3,4,5,6,7,8,9] [0,1,2,3,4,5,6,7,8,9] c34_34 = true := by kernel_rfl
theorem e34_32 : c34_32 = .seq c34_33 c34_34 := by kernel_rfl
theorem e34_31 : c34_31 = .block 2 c34_32 := by kernel_rfl
def c34_35 := sB c34_30
theorem e34_35 : aI c34_35 = some [oo 32 (.binOp .add 3 (.tmp 20) (.const (.int .i64 1)) 3) 3,oo 20 (.move (.tmp 32)) 3] := by kernel_rfl
theorem e34_30 : c34_30 = .seq c34_31 c34_35 := by kernel_rfl
theorem e34_26 : c34_26 = .seq c34_27 c34_30 := by kernel_rfl
theorem e34_24 : c34_24 = .seq c34_25 c34_26 := by kernel_rfl
theorem e34_23 : c34_23 = .loop c34_24 := by kernel_rfl
theorem e34_22 : c34_22 = .block 1 c34_23 := by kernel_rfl
theorem e34_20 : c34_20 = .seq c34_21 c34_22 := by kernel_rfl
def c34_36 := sB c34_19
def c34_37 := sA c34_36
theorem e34_37 : aI c34_37 = some [oo 33 (.fieldAddr 31 (.tmp 2) 0) 0,oo 34 (.load 3 (.tmp 33)) 3,oo 35 (.move (.tmp 5)) 29,oo 36 (.build 31 (List.toArray [(0,(.tmp 34)),(4,(.tmp 35))])) 31,⟨none,none,.store 31 (.tmp 4) (.tmp 36),0⟩] := by kernel_rfl
def c34_38 := sB c34_36
theorem e34_38 : c34_38 = .ret := by kernel_rfl
theorem e34_36 : c34_36 = .seq c34_37 c34_38 := by kernel_rfl
theorem e34_19 : c34_19 = .seq c34_20 c34_36 := by kernel_rfl
theorem e34_17 : c34_17 = .seq c34_18 c34_19 := by kernel_rfl
def c34_39 := cE c34_16
theorem e34_39 : c34_39 = .skip := by kernel_rfl
theorem e34_16 : c34_16 = .cond (.tmp 11) c34_17 c34_39 := by kernel_rfl
theorem e34_6 : c34_6 = .seq c34_7 c34_16 := by kernel_rfl
theorem e34_5 : c34_5 = .block 0 c34_6 := by kernel_rfl
theorem e34_3 : c34_3 = .seq c34_4 c34_5 := by kernel_rfl
def c34_40 := sB c34_2
def c34_41 := sA c34_40
def c34_42 := sA c34_41
theorem e34_42 : aI c34_42 = some [oo 37 (.load 31 (.tmp 2)) 31,oo 38 (.call ⟨.value (.func 18),(List.toArray [(.tmp 37)]),#[31]⟩) 28,oo 39 (.call ⟨.value (.func 59),(List.toArray [(.tmp 38)]),#[28]⟩) 110] := by kernel_rfl
def c34_43 := sB c34_41
def c34_44 := bB c34_43
def c34_45 := rA c34_44
theorem e34_45 : aI c34_45 = some [oo 8 (.assign (.tmp 41)) 9] := by kernel_rfl
def c34_46 := rB c34_44
def c34_47 := bB c34_46
def c34_48 := sA c34_47
theorem e34_48 : aI c34_48 = some [oo 42 (.load 28 (.tmp 3)) 28,oo 43 (.move (.tmp 8)) 9,oo 44 (.call ⟨.value (.func 28),(List.toArray [(.tmp 42),(.tmp 43)]),#[28,9]⟩) 4,oo 45 (.unOp .not 4 (.tmp 44)) 4] := by kernel_rfl
def c34_49 := sB c34_47
def c34_50 := cT c34_49
theorem e34_50 : aI c34_50 = some [oo 46 (.move (.tmp 8)) 9,oo 47 (.load 31 (.tmp 2)) 31,oo 48 (.buildSlice 29 1 (List.toArray [(0,(.tmp 47))])) 29,oo 49 (.build 31 (List.toArray [(0,(.const (.int .i64 7))),(2,(.tmp 46)),(4,(.tmp 48))])) 31,⟨none,none,.store 31 (.tmp 2) (.tmp 49),0⟩] := by kernel_rfl
def c34_51 := cE c34_49
theorem e34_51 : c34_51 = .skip := by kernel_rfl
theorem e34_49 : c34_49 = .cond (.tmp 45) c34_50 c34_51 := by kernel_rfl
theorem e34_47 : c34_47 = .seq c34_48 c34_49 := by kernel_rfl
theorem e34_46 : c34_46 = .block 4 c34_47 := by kernel_rfl
theorem e34_44 : c34_44 = .rangeFunc (.tmp 39) #[40,41] c34_45 c34_46 := by kernel_rfl
theorem e34_43 : c34_43 = .block 3 c34_44 := by kernel_rfl
theorem e34_41 : c34_41 = .seq c34_42 c34_43 := by kernel_rfl
def c34_52 := sB c34_40
def c34_53 := sA c34_52
theorem e34_53 : aI c34_53 = some [oo 50 (.load 31 (.tmp 2)) 31,⟨none,none,.store 31 (.tmp 4) (.tmp 50),0⟩] := by kernel_rfl
def c34_54 := sB c34_52
theorem e34_54 : c34_54 = .ret := by kernel_rfl
theorem e34_52 : c34_52 = .seq c34_53 c34_54 := by kernel_rfl
theorem e34_40 : c34_40 = .seq c34_41 c34_52 := by kernel_rfl
theorem e34_2 : c34_2 = .seq c34_3 c34_40 := by kernel_rfl
theorem e34_0 : c34_0 = .seq c34_1 c34_2 := by kernel_rfl
def c35_0 := cK Try.f35
def c35_1 := sA c35_0
theorem e35_1 : aI c35_1 = some [oo 3 (.box 31 (.tmp 0)) 0,oo 6 (.assign (.const (.slice none 0 0))) 28] := by kernel_rfl
def c35_2 := sB c35_0
def c35_3 := sA c35_2
def c35_4 := sA c35_3
theorem e35_4 : aI c35_4 = some [oo 11 (.fieldAddr 31 (.tmp 3) 0) 0,oo 12 (.load 3 (.tmp 11)) 3,oo 13 (.binOp .eql 3 (.tmp 12) (.const (.int .i64 2)) 3) 4] := by kernel_rfl
def c35_5 := sB c35_3
def c35_6 := cT c35_5
def c35_7 := sA c35_6
def c35_8 := sA c35_7
theorem e35_8 : aI c35_8 = some [oo 14 (.fieldAddr 31 (.tmp 3) 3) 0,oo 15 (.load 28 (.tmp 14)) 28,oo 16 (.call ⟨.builtin .len,#[(.tmp 15)],#[28]⟩) 3,oo 17 (.move (.const (.int .i64 0))) 3] := by kernel_rfl
def c35_9 := sB c35_7
def c35_10 := bB c35_9
def c35_11 := bB c35_10
def c35_12 := sA c35_11
theorem e35_12 : aI c35_12 = some [oo 18 (.binOp .lss 3 (.tmp 17) (.tmp 16) 3) 0] := by kernel_rfl
def c35_13 := sB c35_11
def c35_14 := sA c35_13
def c35_15 := cT c35_14
theorem e35_15 : c35_15 = .skip := by kernel_rfl
def c35_16 := cE c35_14
theorem e35_16 : c35_16 = .exit 0 := by kernel_rfl
theorem e35_14 : c35_14 = .cond (.tmp 18) c35_15 c35_16 := by kernel_rfl
def c35_17 := sB c35_13
def c35_18 := sA c35_17
def c35_19 := bB c35_18
def c35_20 := sA c35_19
theorem e35_20 : aI c35_20 = some [oo 19 (.indexAddr 28 (.tmp 15) (.tmp 17)) 0,oo 20 (.load 9 (.tmp 19)) 9,oo 8 (.assign (.tmp 20)) 9] := by kernel_rfl
def c35_21 := sB c35_19
def c35_22 := sA c35_21
theorem e35_22 : aI c35_22 = some [oo 21 (.move (.tmp 1)) 28,oo 22 (.move (.tmp 8)) 9,oo 23 (.call ⟨.value (.func 28),(List.toArray [(.tmp 21),(.tmp 22)]),#[28,9]⟩) 4,oo 24 (.unOp .not 4 (.tmp 23)) 4,oo 25 (.move (.tmp 24)) 4,⟨some (25,true),some 26,.move (.tmp 2),28⟩,⟨some (25,true),some 27,.move (.tmp 8),9⟩,⟨some (25,true),some 28,.call ⟨.value (.func 28),(List.toArray [(.tmp 26),(.tmp 27)]),#[28,9]⟩,4⟩,⟨some (25,true),some 29,.unOp .not 4 (.tmp 28),4⟩,oo 30 (.pick (.tmp 25) (.tmp 29) (.const (.bool false))) 4] := by kernel_rfl
def c35_23 := sB c35_21
def c35_24 := cT c35_23
theorem e35_24 : aI c35_24 = some [oo 31 (.move (.tmp 2)) 28,oo 32 (.move (.tmp 8)) 9,oo 33 (.buildSlice 28 1 (List.toArray [(0,(.tmp 32))])) 28,oo 34 (.call ⟨.builtin .append,#[(.tmp 31),(.tmp 33)],#[28,28]⟩) 28,oo 2 (.assign (.tmp 34)) 28] := by kernel_rfl
def c35_25 := cE c35_23
theorem e35_25 : c35_25 = .skip := by kernel_rfl
theorem e35_23 : c35_23 = .cond (.tmp 30) c35_24 c35_25 := by kernel_rfl
theorem e35_21 : c35_21 = .seq c35_22 c35_23 := by kernel_rfl
theorem e35_19 : c35_19 = .seq c35_20 c35_21 := by kernel_rfl
theorem e35_18 : c35_18 = .block 1 c35_19 := by kernel_rfl
def c35_26 := sB c35_17
theorem e35_26 : aI c35_26 = some [oo 35 (.binOp .add 3 (.tmp 17) (.const (.int .i64 1)) 3) 3,oo 17 (.move (.tmp 35)) 3] := by kernel_rfl
theorem e35_17 : c35_17 = .seq c35_18 c35_26 := by kernel_rfl
theorem e35_13 : c35_13 = .seq c35_14 c35_17 := by kernel_rfl
theorem e35_11 : c35_11 = .seq c35_12 c35_13 := by kernel_rfl
theorem e35_10 : c35_10 = .loop c35_11 := by kernel_rfl
theorem e35_9 : c35_9 = .block 0 c35_10 := by kernel_rfl
theorem e35_7 : c35_7 = .seq c35_8 c35_9 := by kernel_rfl
def c35_27 := sB c35_6
def c35_28 := sA c35_27
theorem e35_28 : aI c35_28 = some [oo 36 (.move (.tmp 2)) 28,oo 6 (.assign (.tmp 36)) 28] := by kernel_rfl
def c35_29 := sB c35_27
theorem e35_29 : c35_29 = .ret := by kernel_rfl
theorem e35_27 : c35_27 = .seq c35_28 c35_29 := by kernel_rfl
theorem e35_6 : c35_6 = .seq c35_7 c35_27 := by kernel_rfl
def c35_30 := cE c35_5
theorem e35_30 : c35_30 = .skip := by kernel_rfl
theorem e35_5 : c35_5 = .cond (.tmp 13) c35_6 c35_30 := by kernel_rfl
theorem e35_3 : c35_3 = .seq c35_4 c35_5 := by kernel_rfl
def c35_31 := sB c35_2
def c35_32 := sA c35_31
def c35_33 := sA c35_32
theorem e35_33 : aI c35_33 = some [oo 37 (.fieldAddr 31 (.tmp 3) 0) 0,oo 38 (.load 3 (.tmp 37)) 3,oo 39 (.binOp .eql 3 (.tmp 38) (.const (.int .i64 7)) 3) 4] := by kernel_rfl
def c35_34 := sB c35_32
def c35_35 := cT c35_34
def o35_35 : List COp := [oo 40 (.move (.tmp 1)) 28,oo 41 (.call ⟨.value (.func 60),(List.toArray [(.tmp 40)]),#[28]⟩) 28,oo 42 (.fieldAddr 31 (.tmp 3) 2) 0,oo 43 (.load 9 (.tmp 42)) 9,oo 44 (.buildSlice 28 1 (List.toArray [(0,(.tmp 43))])) 28,oo 45 (.call ⟨.builtin .append,#[(.tmp 41),(.tmp 44)],#[28,28]⟩) 28,oo 1 (.assign (.tmp 45)) 28]
def d35_35 : List (List Nat) := [[],[0],[],[2],[3],[1,4,1],[5,5,0,1,2,3,4,5]]
theorem e35_35 : rDrw c35_35 = some (o35_35,d35_35) := by kernel_rfl
theorem k35_35 : chkCs o35_35 d35_35 X35.fn.ntmps [1,4,5,6] [[(0,false),(2,false),(3,false),(1,true),(4,true),(5,true),(6,true)],[(0,false),(2,false),(3,false),(4,true),(1,true),(5,true),(6,true)]] = true := by kernel_rfl
theorem m35_35 : chkM [0,1,2,3,4,5,6] [0,1,2,3,4,5,6] c35_35 = true := by kernel_rfl
def c35_36 := cE c35_34
theorem e35_36 : c35_36 = .skip := by kernel_rfl
theorem e35_34 : c35_34 = .cond (.tmp 39) c35_35 c35_36 := by kernel_rfl
theorem e35_32 : c35_32 = .seq c35_33 c35_34 := by kernel_rfl
def c35_37 := sB c35_31
def c35_38 := sA c35_37
def c35_39 := sA c35_38
theorem e35_39 : aI c35_39 = some [oo 46 (.fieldAddr 31 (.tmp 3) 4) 0,oo 47 (.load 29 (.tmp 46)) 29,oo 48 (.call ⟨.builtin .len,#[(.tmp 47)],#[29]⟩) 3,oo 49 (.move (.const (.int .i64 0))) 3] := by kernel_rfl
def c35_40 := sB c35_38
def c35_41 := bB c35_40
def c35_42 := bB c35_41
def c35_43 := sA c35_42
theorem e35_43 : aI c35_43 = some [oo 50 (.binOp .lss 3 (.tmp 49) (.tmp 48) 3) 0] := by kernel_rfl
def c35_44 := sB c35_42
def c35_45 := sA c35_44
def c35_46 := cT c35_45
theorem e35_46 : c35_46 = .skip := by kernel_rfl
def c35_47 := cE c35_45
theorem e35_47 : c35_47 = .exit 2 := by kernel_rfl
theorem e35_45 : c35_45 = .cond (.tmp 50) c35_46 c35_47 := by kernel_rfl
def c35_48 := sB c35_44
def c35_49 := sA c35_48
def c35_50 := bB c35_49
def c35_51 := sA c35_50
theorem e35_51 : aI c35_51 = some [oo 51 (.indexAddr 29 (.tmp 47) (.tmp 49)) 0,oo 52 (.load 31 (.tmp 51)) 31,oo 10 (.alloc 31) 0,⟨none,none,.store 31 (.tmp 10) (.tmp 52),0⟩] := by kernel_rfl
def c35_52 := sB c35_50
theorem e35_52 : aI c35_52 = some [oo 53 (.load 31 (.tmp 10)) 31,oo 54 (.move (.tmp 1)) 28,oo 55 (.move (.tmp 2)) 28,oo 56 (.call ⟨.value (.func 35),(List.toArray [(.tmp 53),(.tmp 54),(.tmp 55)]),#[31,28,28]⟩) 28,oo 2 (.assign (.tmp 56)) 28] := by kernel_rfl
theorem e35_50 : c35_50 = .seq c35_51 c35_52 := by kernel_rfl
theorem e35_49 : c35_49 = .block 3 c35_50 := by kernel_rfl
def c35_53 := sB c35_48
theorem e35_53 : aI c35_53 = some [oo 57 (.binOp .add 3 (.tmp 49) (.const (.int .i64 1)) 3) 3,oo 49 (.move (.tmp 57)) 3] := by kernel_rfl
theorem e35_48 : c35_48 = .seq c35_49 c35_53 := by kernel_rfl
theorem e35_44 : c35_44 = .seq c35_45 c35_48 := by kernel_rfl
theorem e35_42 : c35_42 = .seq c35_43 c35_44 := by kernel_rfl
theorem e35_41 : c35_41 = .loop c35_42 := by kernel_rfl
theorem e35_40 : c35_40 = .block 2 c35_41 := by kernel_rfl
theorem e35_38 : c35_38 = .seq c35_39 c35_40 := by kernel_rfl
def c35_54 := sB c35_37
def c35_55 := sA c35_54
theorem e35_55 : aI c35_55 = some [oo 58 (.move (.tmp 2)) 28,oo 6 (.assign (.tmp 58)) 28] := by kernel_rfl
def c35_56 := sB c35_54
theorem e35_56 : c35_56 = .ret := by kernel_rfl
theorem e35_54 : c35_54 = .seq c35_55 c35_56 := by kernel_rfl
theorem e35_37 : c35_37 = .seq c35_38 c35_54 := by kernel_rfl
theorem e35_31 : c35_31 = .seq c35_32 c35_37 := by kernel_rfl
theorem e35_2 : c35_2 = .seq c35_3 c35_31 := by kernel_rfl
theorem e35_0 : c35_0 = .seq c35_1 c35_2 := by kernel_rfl
def c38_0 := cK Try.f38
def c38_1 := sA c38_0
theorem e38_1 : aI c38_1 = some [oo 2 (.box 31 (.tmp 0)) 0,oo 4 (.assign (.const (.int .i64 0))) 3] := by kernel_rfl
def c38_2 := sB c38_0
def c38_3 := sA c38_2
theorem e38_3 : aI c38_3 = some [oo 11 (.load 31 (.tmp 2)) 31,oo 5 (.alloc 31) 0,⟨none,none,.store 31 (.tmp 5) (.tmp 11),0⟩] := by kernel_rfl
def c38_4 := sB c38_2
def c38_5 := sA c38_4
theorem e38_5 : aI c38_5 = some [oo 12 (.fieldAddr 31 (.tmp 5) 4) 0,⟨none,none,.store 29 (.tmp 12) (.const (.slice none 0 0)),0⟩] := by kernel_rfl
def c38_6 := sB c38_4
def c38_7 := sA c38_6
def o38_7 : List COp := [oo 13 (.move (.tmp 1)) 3,oo 14 (.binOp .gtr 3 (.tmp 13) (.const (.int .i64 0)) 3) 4,oo 15 (.move (.tmp 14)) 4,⟨some (15,true),some 16,.fieldAddr 31 (.tmp 2) 0,0⟩,⟨some (15,true),some 17,.load 3 (.tmp 16),3⟩,⟨some (15,true),some 18,.call ⟨.value (.func 61),(List.toArray [(.tmp 17)]),#[3]⟩,3⟩,⟨some (15,true),some 19,.fieldAddr 31 (.tmp 2) 4,0⟩,⟨some (15,true),some 20,.load 29 (.tmp 19),29⟩,⟨some (15,true),some 21,.call ⟨.builtin .len,#[(.tmp 20)],#[29]⟩,3⟩,⟨some (15,true),some 22,.binOp .eql 3 (.tmp 18) (.tmp 21) 3,4⟩,oo 23 (.pick (.tmp 15) (.tmp 22) (.const (.bool false))) 4,oo 6 (.assign (.tmp 23)) 4]
def d38_7 : List (List Nat) := [[],[0],[1],[2],[3,2],[4,2,2],[2],[6,2],[7,2],[5,8,2],[2,9],[10,5,0,1,2,3,4,5,6,7,8,9,10]]
theorem e38_7 : rDrw c38_7 = some (o38_7,d38_7) := by kernel_rfl
theorem k38_7 : chkCs o38_7 d38_7 X38.fn.ntmps [5] [[(0,false),(1,false),(2,false),(3,false),(4,false),(6,false),(7,false),(8,false),(5,true),(9,false),(10,false),(11,false)]] = true := by kernel_rfl
theorem m38_7 : chkM [0,1,2,3,4,5,6,7,8,9,10,11] [0,1,2,3,4,5,6,7,8,9,10,11] c38_7 = true := by kernel_rfl
def c38_8 := sB c38_6
def c38_9 := sA c38_8
def c38_10 := sA c38_9
theorem e38_10 : aI c38_10 = some [oo 24 (.fieldAddr 31 (.tmp 2) 0) 0,oo 25 (.load 3 (.tmp 24)) 3] := by kernel_rfl
def c38_11 := sB c38_9
def c38_12 := bB c38_11
def c38_13 := sA c38_12
theorem e38_13 : aI c38_13 = some [oo 27 (.binOp .eql 3 (.tmp 25) (.const (.int .i64 1)) 3) 4,oo 26 (.assign (.tmp 27)) 4] := by kernel_rfl
def c38_14 := sB c38_12
def c38_15 := cT c38_14
def c38_16 := sA c38_15
theorem e38_16 : aI c38_16 = some [oo 28 (.move (.tmp 6)) 4,oo 29 (.move (.tmp 28)) 4,⟨some (29,true),some 30,.fieldAddr 31 (.tmp 2) 1,0⟩,⟨some (29,true),some 31,.load 2 (.tmp 30),2⟩,⟨some (29,true),some 32,.binOp .geq 2 (.tmp 31) (.const (.int .i64 0)) 2,4⟩,oo 33 (.pick (.tmp 29) (.tmp 32) (.const (.bool false))) 4,oo 34 (.move (.tmp 33)) 4,⟨some (34,true),some 35,.fieldAddr 31 (.tmp 2) 1,0⟩,⟨some (34,true),some 36,.load 2 (.tmp 35),2⟩,⟨some (34,true),some 37,.binOp .lss 2 (.tmp 36) (.const (.int .i64 1000000000000000000)) 2,4⟩,oo 38 (.pick (.tmp 34) (.tmp 37) (.const (.bool false))) 4,oo 6 (.assign (.tmp 38)) 4] := by kernel_rfl
def c38_17 := sB c38_15
theorem e38_17 : aI c38_17 = some [oo 39 (.fieldAddr 31 (.tmp 5) 1) 0,⟨none,none,.store 2 (.tmp 39) (.const (.int .i64 0)),0⟩] := by kernel_rfl
theorem e38_15 : c38_15 = .seq c38_16 c38_17 := by kernel_rfl
def c38_18 := cE c38_14
def c38_19 := sA c38_18
theorem e38_19 : aI c38_19 = some [oo 41 (.binOp .eql 3 (.tmp 25) (.const (.int .i64 2)) 3) 4,oo 40 (.assign (.tmp 41)) 4] := by kernel_rfl
def c38_20 := sB c38_18
def c38_21 := cT c38_20
def c38_22 := sA c38_21
theorem e38_22 : aI c38_22 = some [oo 42 (.move (.tmp 6)) 4,oo 43 (.move (.tmp 42)) 4,⟨some (43,true),some 44,.fieldAddr 31 (.tmp 2) 2,0⟩,⟨some (43,true),some 45,.load 9 (.tmp 44),9⟩,⟨some (43,true),some 46,.call ⟨.value (.func 46),(List.toArray [(.tmp 45)]),#[9]⟩,4⟩,oo 47 (.pick (.tmp 43) (.tmp 46) (.const (.bool false))) 4,oo 48 (.move (.tmp 47)) 4,⟨some (48,true),some 49,.fieldAddr 31 (.tmp 2) 3,0⟩,⟨some (48,true),some 50,.load 28 (.tmp 49),28⟩,⟨some (48,true),some 51,.call ⟨.value (.func 49),(List.toArray [(.tmp 50)]),#[28]⟩,4⟩,oo 52 (.pick (.tmp 48) (.tmp 51) (.const (.bool false))) 4,oo 6 (.assign (.tmp 52)) 4] := by kernel_rfl
def c38_23 := sB c38_21
theorem e38_23 : aI c38_23 = some [oo 53 (.fieldAddr 31 (.tmp 5) 2) 0,⟨none,none,.store 9 (.tmp 53) (.const (.string ByteArray.empty)),0⟩,oo 54 (.fieldAddr 31 (.tmp 5) 3) 0,⟨none,none,.store 28 (.tmp 54) (.const (.slice none 0 0)),0⟩] := by kernel_rfl
theorem e38_21 : c38_21 = .seq c38_22 c38_23 := by kernel_rfl
def c38_24 := cE c38_20
def c38_25 := sA c38_24
theorem e38_25 : aI c38_25 = some [oo 56 (.binOp .eql 3 (.tmp 25) (.const (.int .i64 7)) 3) 4,oo 55 (.assign (.tmp 56)) 4] := by kernel_rfl
def c38_26 := sB c38_24
def c38_27 := cT c38_26
def c38_28 := sA c38_27
theorem e38_28 : aI c38_28 = some [oo 57 (.move (.tmp 6)) 4,oo 58 (.move (.tmp 57)) 4,⟨some (58,true),some 59,.fieldAddr 31 (.tmp 2) 2,0⟩,⟨some (58,true),some 60,.load 9 (.tmp 59),9⟩,⟨some (58,true),some 61,.call ⟨.value (.func 46),(List.toArray [(.tmp 60)]),#[9]⟩,4⟩,oo 62 (.pick (.tmp 58) (.tmp 61) (.const (.bool false))) 4,oo 6 (.assign (.tmp 62)) 4] := by kernel_rfl
def c38_29 := sB c38_27
theorem e38_29 : aI c38_29 = some [oo 63 (.fieldAddr 31 (.tmp 5) 2) 0,⟨none,none,.store 9 (.tmp 63) (.const (.string ByteArray.empty)),0⟩] := by kernel_rfl
theorem e38_27 : c38_27 = .seq c38_28 c38_29 := by kernel_rfl
def c38_30 := cE c38_26
theorem e38_30 : c38_30 = .skip := by kernel_rfl
theorem e38_26 : c38_26 = .cond (.tmp 55) c38_27 c38_30 := by kernel_rfl
theorem e38_24 : c38_24 = .seq c38_25 c38_26 := by kernel_rfl
theorem e38_20 : c38_20 = .cond (.tmp 40) c38_21 c38_24 := by kernel_rfl
theorem e38_18 : c38_18 = .seq c38_19 c38_20 := by kernel_rfl
theorem e38_14 : c38_14 = .cond (.tmp 26) c38_15 c38_18 := by kernel_rfl
theorem e38_12 : c38_12 = .seq c38_13 c38_14 := by kernel_rfl
theorem e38_11 : c38_11 = .block 0 c38_12 := by kernel_rfl
theorem e38_9 : c38_9 = .seq c38_10 c38_11 := by kernel_rfl
def c38_31 := sB c38_8
def c38_32 := sA c38_31
def c38_33 := sA c38_32
theorem e38_33 : aI c38_33 = some [oo 64 (.move (.tmp 6)) 4,oo 65 (.unOp .not 4 (.tmp 64)) 4,oo 66 (.move (.tmp 65)) 4,⟨some (66,false),some 67,.fieldAddr 31 (.tmp 5) 1,0⟩,⟨some (66,false),some 68,.load 2 (.tmp 67),2⟩,⟨some (66,false),some 69,.binOp .neq 2 (.tmp 68) (.const (.int .i64 0)) 2,4⟩,oo 70 (.pick (.tmp 66) (.const (.bool true)) (.tmp 69)) 4,oo 71 (.move (.tmp 70)) 4,⟨some (71,false),some 72,.fieldAddr 31 (.tmp 5) 2,0⟩,⟨some (71,false),some 73,.load 9 (.tmp 72),9⟩,⟨some (71,false),some 74,.binOp .neq 9 (.tmp 73) (.const (.string ByteArray.empty)) 9,4⟩,oo 75 (.pick (.tmp 71) (.const (.bool true)) (.tmp 74)) 4,oo 76 (.move (.tmp 75)) 4,⟨some (76,false),some 77,.fieldAddr 31 (.tmp 5) 3,0⟩,⟨some (76,false),some 78,.load 28 (.tmp 77),28⟩,⟨some (76,false),some 79,.call ⟨.builtin .len,#[(.tmp 78)],#[28]⟩,3⟩,⟨some (76,false),some 80,.binOp .gtr 3 (.tmp 79) (.const (.int .i64 0)) 3,4⟩,oo 81 (.pick (.tmp 76) (.const (.bool true)) (.tmp 80)) 4] := by kernel_rfl
def c38_34 := sB c38_32
def c38_35 := cT c38_34
def c38_36 := sA c38_35
theorem e38_36 : aI c38_36 = some [oo 4 (.assign (.const (.int .i64 (-1)))) 3] := by kernel_rfl
def c38_37 := sB c38_35
theorem e38_37 : c38_37 = .ret := by kernel_rfl
theorem e38_35 : c38_35 = .seq c38_36 c38_37 := by kernel_rfl
def c38_38 := cE c38_34
theorem e38_38 : c38_38 = .skip := by kernel_rfl
theorem e38_34 : c38_34 = .cond (.tmp 81) c38_35 c38_38 := by kernel_rfl
theorem e38_32 : c38_32 = .seq c38_33 c38_34 := by kernel_rfl
def c38_39 := sB c38_31
def c38_40 := sA c38_39
theorem e38_40 : aI c38_40 = some [oo 7 (.assign (.const (.int .i64 1))) 3] := by kernel_rfl
def c38_41 := sB c38_39
def c38_42 := sA c38_41
def c38_43 := sA c38_42
theorem e38_43 : aI c38_43 = some [oo 82 (.fieldAddr 31 (.tmp 2) 4) 0,oo 83 (.load 29 (.tmp 82)) 29,oo 84 (.call ⟨.builtin .len,#[(.tmp 83)],#[29]⟩) 3,oo 85 (.move (.const (.int .i64 0))) 3] := by kernel_rfl
def c38_44 := sB c38_42
def c38_45 := bB c38_44
def c38_46 := bB c38_45
def c38_47 := sA c38_46
theorem e38_47 : aI c38_47 = some [oo 86 (.binOp .lss 3 (.tmp 85) (.tmp 84) 3) 0] := by kernel_rfl
def c38_48 := sB c38_46
def c38_49 := sA c38_48
def c38_50 := cT c38_49
theorem e38_50 : c38_50 = .skip := by kernel_rfl
def c38_51 := cE c38_49
theorem e38_51 : c38_51 = .exit 1 := by kernel_rfl
theorem e38_49 : c38_49 = .cond (.tmp 86) c38_50 c38_51 := by kernel_rfl
def c38_52 := sB c38_48
def c38_53 := sA c38_52
def c38_54 := bB c38_53
def c38_55 := sA c38_54
theorem e38_55 : aI c38_55 = some [oo 87 (.indexAddr 29 (.tmp 83) (.tmp 85)) 0,oo 88 (.load 31 (.tmp 87)) 31,oo 9 (.alloc 31) 0,⟨none,none,.store 31 (.tmp 9) (.tmp 88),0⟩] := by kernel_rfl
def c38_56 := sB c38_54
def c38_57 := sA c38_56
theorem e38_57 : aI c38_57 = some [oo 89 (.load 31 (.tmp 9)) 31,oo 90 (.move (.tmp 1)) 3,oo 91 (.binOp .sub 3 (.tmp 90) (.const (.int .i64 1)) 3) 3,oo 92 (.call ⟨.value (.func 38),(List.toArray [(.tmp 89),(.tmp 91)]),#[31,3]⟩) 3,oo 10 (.assign (.tmp 92)) 3] := by kernel_rfl
def c38_58 := sB c38_56
def c38_59 := sA c38_58
def c38_60 := sA c38_59
theorem e38_60 : aI c38_60 = some [oo 93 (.move (.tmp 10)) 3,oo 94 (.binOp .lss 3 (.tmp 93) (.const (.int .i64 0)) 3) 4] := by kernel_rfl
def c38_61 := sB c38_59
def c38_62 := cT c38_61
def c38_63 := sA c38_62
theorem e38_63 : aI c38_63 = some [oo 4 (.assign (.const (.int .i64 (-1)))) 3] := by kernel_rfl
def c38_64 := sB c38_62
theorem e38_64 : c38_64 = .ret := by kernel_rfl
theorem e38_62 : c38_62 = .seq c38_63 c38_64 := by kernel_rfl
def c38_65 := cE c38_61
theorem e38_65 : c38_65 = .skip := by kernel_rfl
theorem e38_61 : c38_61 = .cond (.tmp 94) c38_62 c38_65 := by kernel_rfl
theorem e38_59 : c38_59 = .seq c38_60 c38_61 := by kernel_rfl
def c38_66 := sB c38_58
theorem e38_66 : aI c38_66 = some [oo 95 (.move (.tmp 7)) 3,oo 96 (.move (.tmp 10)) 3,oo 97 (.binOp .add 3 (.tmp 95) (.tmp 96) 3) 3,oo 7 (.assign (.tmp 97)) 3] := by kernel_rfl
theorem e38_58 : c38_58 = .seq c38_59 c38_66 := by kernel_rfl
theorem e38_56 : c38_56 = .seq c38_57 c38_58 := by kernel_rfl
theorem e38_54 : c38_54 = .seq c38_55 c38_56 := by kernel_rfl
theorem e38_53 : c38_53 = .block 2 c38_54 := by kernel_rfl
def c38_67 := sB c38_52
theorem e38_67 : aI c38_67 = some [oo 98 (.binOp .add 3 (.tmp 85) (.const (.int .i64 1)) 3) 3,oo 85 (.move (.tmp 98)) 3] := by kernel_rfl
theorem e38_52 : c38_52 = .seq c38_53 c38_67 := by kernel_rfl
theorem e38_48 : c38_48 = .seq c38_49 c38_52 := by kernel_rfl
theorem e38_46 : c38_46 = .seq c38_47 c38_48 := by kernel_rfl
theorem e38_45 : c38_45 = .loop c38_46 := by kernel_rfl
theorem e38_44 : c38_44 = .block 1 c38_45 := by kernel_rfl
theorem e38_42 : c38_42 = .seq c38_43 c38_44 := by kernel_rfl
def c38_68 := sB c38_41
def c38_69 := sA c38_68
theorem e38_69 : aI c38_69 = some [oo 99 (.move (.tmp 7)) 3,oo 4 (.assign (.tmp 99)) 3] := by kernel_rfl
def c38_70 := sB c38_68
theorem e38_70 : c38_70 = .ret := by kernel_rfl
theorem e38_68 : c38_68 = .seq c38_69 c38_70 := by kernel_rfl
theorem e38_41 : c38_41 = .seq c38_42 c38_68 := by kernel_rfl
theorem e38_39 : c38_39 = .seq c38_40 c38_41 := by kernel_rfl
theorem e38_31 : c38_31 = .seq c38_32 c38_39 := by kernel_rfl
theorem e38_8 : c38_8 = .seq c38_9 c38_31 := by kernel_rfl
theorem e38_6 : c38_6 = .seq c38_7 c38_8 := by kernel_rfl
theorem e38_4 : c38_4 = .seq c38_5 c38_6 := by kernel_rfl
theorem e38_2 : c38_2 = .seq c38_3 c38_4 := by kernel_rfl
theorem e38_0 : c38_0 = .seq c38_1 c38_2 := by kernel_rfl
def c40_0 := cK Try.f40
def c40_1 := sA c40_0
theorem e40_1 : aI c40_1 = some [oo 2 (.assign (.const (.slice none 0 0))) 87,oo 3 (.assign (.const (.int .i64 0))) 3,oo 4 (.assign (.const (.int .i64 0))) 35] := by kernel_rfl
def c40_2 := sB c40_0
def c40_3 := bB c40_2
def c40_4 := sA c40_3
def c40_5 := sA c40_4
theorem e40_5 : aI c40_5 = some [oo 11 (.move (.tmp 0)) 9,oo 12 (.call ⟨.builtin .len,#[(.tmp 11)],#[9]⟩) 3,oo 13 (.binOp .gtr 3 (.tmp 12) (.const (.int .i64 65536)) 3) 4] := by kernel_rfl
def c40_6 := sB c40_4
def c40_7 := cT c40_6
def c40_8 := sA c40_7
theorem e40_8 : aI c40_8 = some [oo 2 (.assign (.const (.slice none 0 0))) 87,oo 3 (.assign (.const (.int .i64 0))) 3,oo 4 (.assign (.const (.int .i64 2))) 35] := by kernel_rfl
def c40_9 := sB c40_7
theorem e40_9 : c40_9 = .ret := by kernel_rfl
theorem e40_7 : c40_7 = .seq c40_8 c40_9 := by kernel_rfl
def c40_10 := cE c40_6
theorem e40_10 : c40_10 = .skip := by kernel_rfl
theorem e40_6 : c40_6 = .cond (.tmp 13) c40_7 c40_10 := by kernel_rfl
theorem e40_4 : c40_4 = .seq c40_5 c40_6 := by kernel_rfl
def c40_11 := sB c40_3
def c40_12 := sA c40_11
theorem e40_12 : aI c40_12 = some [oo 5 (.assign (.const (.slice none 0 0))) 87] := by kernel_rfl
def c40_13 := sB c40_11
def c40_14 := sA c40_13
theorem e40_14 : aI c40_14 = some [oo 6 (.assign (.const (.bool false))) 4] := by kernel_rfl
def c40_15 := sB c40_13
def c40_16 := sA c40_15
theorem e40_16 : aI c40_16 = some [oo 7 (.assign (.const (.int .i64 0))) 3] := by kernel_rfl
def c40_17 := sB c40_15
def c40_18 := sA c40_17
theorem e40_18 : c40_18 = .label 0 := by kernel_rfl
def c40_19 := sB c40_17
def c40_20 := sA c40_19
def c40_21 := bB c40_20
def c40_22 := bB c40_21
def c40_23 := sA c40_22
def c40_24 := sA c40_23
theorem e40_24 : aI c40_24 = some [oo 14 (.move (.tmp 7)) 3,oo 15 (.move (.tmp 0)) 9,oo 16 (.call ⟨.builtin .len,#[(.tmp 15)],#[9]⟩) 3,oo 17 (.binOp .lss 3 (.tmp 14) (.tmp 16) 3) 4] := by kernel_rfl
def c40_25 := sB c40_23
def c40_26 := cT c40_25
theorem e40_26 : c40_26 = .skip := by kernel_rfl
def c40_27 := cE c40_25
theorem e40_27 : c40_27 = .exit 0 := by kernel_rfl
theorem e40_25 : c40_25 = .cond (.tmp 17) c40_26 c40_27 := by kernel_rfl
theorem e40_23 : c40_23 = .seq c40_24 c40_25 := by kernel_rfl
def c40_28 := sB c40_22
def c40_29 := bB c40_28
def c40_30 := sA c40_29
theorem e40_30 : aI c40_30 = some [oo 8 (.assign (.const (.int .i64 1))) 3] := by kernel_rfl
def c40_31 := sB c40_29
def c40_32 := sA c40_31
def c40_33 := sA c40_32
theorem e40_33 : aI c40_33 = some [oo 18 (.move (.tmp 0)) 9,oo 19 (.move (.tmp 7)) 3,oo 20 (.index 9 (.tmp 18) (.tmp 19)) 5,oo 21 (.call ⟨.value (.func 62),(List.toArray [(.tmp 20)]),#[5]⟩) 3] := by kernel_rfl
def c40_34 := sB c40_32
def c40_35 := bB c40_34
def c40_36 := sA c40_35
theorem e40_36 : aI c40_36 = some [oo 23 (.binOp .eql 3 (.tmp 21) (.const (.int .i64 5)) 3) 4,oo 22 (.assign (.tmp 23)) 4] := by kernel_rfl
def c40_37 := sB c40_35
def c40_38 := cT c40_37
def c40_39 := sA c40_38
theorem e40_39 : aI c40_39 = some [oo 24 (.move (.tmp 5)) 87,oo 25 (.call ⟨.builtin .len,#[(.tmp 24)],#[87]⟩) 3,oo 26 (.binOp .gtr 3 (.tmp 25) (.const (.int .i64 0)) 3) 4,oo 6 (.assign (.tmp 26)) 4] := by kernel_rfl
def c40_40 := sB c40_38
def c40_41 := sA c40_40
theorem e40_41 : aI c40_41 = some [oo 27 (.move (.tmp 7)) 3,oo 28 (.binOp .add 3 (.tmp 27) (.const (.int .i64 1)) 3) 3,oo 7 (.assign (.tmp 28)) 3] := by kernel_rfl
def c40_42 := sB c40_40
theorem e40_42 : c40_42 = .exit 1 := by kernel_rfl
theorem e40_40 : c40_40 = .seq c40_41 c40_42 := by kernel_rfl
theorem e40_38 : c40_38 = .seq c40_39 c40_40 := by kernel_rfl
def c40_43 := cE c40_37
def c40_44 := sA c40_43
theorem e40_44 : aI c40_44 = some [oo 30 (.binOp .eql 3 (.tmp 21) (.const (.int .i64 4)) 3) 4,oo 29 (.assign (.tmp 30)) 4] := by kernel_rfl
def c40_45 := sB c40_43
def c40_46 := cT c40_45
def c40_47 := sA c40_46
theorem e40_47 : aI c40_47 = some [oo 31 (.move (.tmp 7)) 3,oo 32 (.binOp .add 3 (.tmp 31) (.const (.int .i64 1)) 3) 3,oo 7 (.assign (.tmp 32)) 3] := by kernel_rfl
def c40_48 := sB c40_46
theorem e40_48 : c40_48 = .exit 1 := by kernel_rfl
theorem e40_46 : c40_46 = .seq c40_47 c40_48 := by kernel_rfl
def c40_49 := cE c40_45
def c40_50 := sA c40_49
theorem e40_50 : aI c40_50 = some [oo 34 (.binOp .eql 3 (.tmp 21) (.const (.int .i64 6)) 3) 4,oo 33 (.assign (.tmp 34)) 4] := by kernel_rfl
def c40_51 := sB c40_49
def c40_52 := cT c40_51
def c40_53 := sA c40_52
def c40_54 := sA c40_53
theorem e40_54 : aI c40_54 = some [oo 35 (.move (.tmp 0)) 9,oo 36 (.move (.tmp 7)) 3,oo 37 (.slice 9 (.tmp 35) (some (.tmp 36)) none none) 9,oo 38 (.call ⟨.value (.func 63),(List.toArray [(.tmp 37),(.const (.int .u8 10))]),#[9,5]⟩) 3,oo 8 (.assign (.tmp 38)) 3] := by kernel_rfl
def c40_55 := sB c40_53
def c40_56 := sA c40_55
theorem e40_56 : aI c40_56 = some [oo 39 (.move (.tmp 8)) 3,oo 40 (.binOp .lss 3 (.tmp 39) (.const (.int .i64 0)) 3) 4] := by kernel_rfl
def c40_57 := sB c40_55
def c40_58 := cT c40_57
theorem e40_58 : c40_58 = .exit 0 := by kernel_rfl
def c40_59 := cE c40_57
theorem e40_59 : c40_59 = .skip := by kernel_rfl
theorem e40_57 : c40_57 = .cond (.tmp 40) c40_58 c40_59 := by kernel_rfl
theorem e40_55 : c40_55 = .seq c40_56 c40_57 := by kernel_rfl
theorem e40_53 : c40_53 = .seq c40_54 c40_55 := by kernel_rfl
def c40_60 := sB c40_52
def c40_61 := sA c40_60
theorem e40_61 : aI c40_61 = some [oo 41 (.move (.tmp 7)) 3,oo 42 (.move (.tmp 8)) 3,oo 43 (.binOp .add 3 (.tmp 41) (.tmp 42) 3) 3,oo 7 (.assign (.tmp 43)) 3] := by kernel_rfl
def c40_62 := sB c40_60
theorem e40_62 : c40_62 = .exit 1 := by kernel_rfl
theorem e40_60 : c40_60 = .seq c40_61 c40_62 := by kernel_rfl
theorem e40_52 : c40_52 = .seq c40_53 c40_60 := by kernel_rfl
def c40_63 := cE c40_51
def c40_64 := sA c40_63
def c40_65 := sA c40_64
theorem e40_65 : aI c40_65 = some [oo 45 (.binOp .eql 3 (.tmp 21) (.const (.int .i64 1)) 3) 4,oo 44 (.assign (.tmp 45)) 4] := by kernel_rfl
def c40_66 := sB c40_64
def c40_67 := cT c40_66
theorem e40_67 : c40_67 = .skip := by kernel_rfl
def c40_68 := cE c40_66
theorem e40_68 : aI c40_68 = some [oo 46 (.binOp .eql 3 (.tmp 21) (.const (.int .i64 2)) 3) 4,oo 44 (.assign (.tmp 46)) 4] := by kernel_rfl
theorem e40_66 : c40_66 = .cond (.tmp 44) c40_67 c40_68 := by kernel_rfl
theorem e40_64 : c40_64 = .seq c40_65 c40_66 := by kernel_rfl
def c40_69 := sB c40_63
def c40_70 := cT c40_69
theorem e40_70 : aI c40_70 = some [oo 47 (.move (.tmp 0)) 9,oo 48 (.move (.tmp 7)) 3,oo 49 (.slice 9 (.tmp 47) (some (.tmp 48)) none none) 9,oo 50 (.call ⟨.value (.func 64),(List.toArray [(.tmp 49)]),#[9]⟩) 3,oo 8 (.assign (.tmp 50)) 3] := by kernel_rfl
def c40_71 := cE c40_69
theorem e40_71 : c40_71 = .skip := by kernel_rfl
theorem e40_69 : c40_69 = .cond (.tmp 44) c40_70 c40_71 := by kernel_rfl
theorem e40_63 : c40_63 = .seq c40_64 c40_69 := by kernel_rfl
theorem e40_51 : c40_51 = .cond (.tmp 33) c40_52 c40_63 := by kernel_rfl
theorem e40_49 : c40_49 = .seq c40_50 c40_51 := by kernel_rfl
theorem e40_45 : c40_45 = .cond (.tmp 29) c40_46 c40_49 := by kernel_rfl
theorem e40_43 : c40_43 = .seq c40_44 c40_45 := by kernel_rfl
theorem e40_37 : c40_37 = .cond (.tmp 22) c40_38 c40_43 := by kernel_rfl
theorem e40_35 : c40_35 = .seq c40_36 c40_37 := by kernel_rfl
theorem e40_34 : c40_34 = .block 2 c40_35 := by kernel_rfl
theorem e40_32 : c40_32 = .seq c40_33 c40_34 := by kernel_rfl
def c40_72 := sB c40_31
def c40_73 := sA c40_72
theorem e40_73 : aI c40_73 = some [oo 52 (.move (.tmp 0)) 9,oo 53 (.move (.tmp 7)) 3,oo 54 (.move (.tmp 7)) 3,oo 55 (.move (.tmp 8)) 3,oo 56 (.binOp .add 3 (.tmp 54) (.tmp 55) 3) 3,oo 57 (.slice 9 (.tmp 52) (some (.tmp 53)) (some (.tmp 56)) none) 9,oo 58 (.call ⟨.value (.func 65),(List.toArray [(.tmp 57)]),#[9]⟩) 119,oo 51 (.move (.tmp 58)) 119,oo 59 (.extract (.tmp 51) 0) 118,oo 60 (.extract (.tmp 51) 1) 4,oo 9 (.alloc 118) 0,⟨none,none,.store 118 (.tmp 9) (.tmp 59),0⟩,oo 10 (.assign (.tmp 60)) 4] := by kernel_rfl
def c40_74 := sB c40_72
def c40_75 := sA c40_74
def c40_76 := sA c40_75
theorem e40_76 : aI c40_76 = some [oo 61 (.move (.tmp 10)) 4,oo 62 (.unOp .not 4 (.tmp 61)) 4] := by kernel_rfl
def c40_77 := sB c40_75
def c40_78 := cT c40_77
def c40_79 := sA c40_78
theorem e40_79 : aI c40_79 = some [oo 63 (.move (.tmp 7)) 3,oo 2 (.assign (.const (.slice none 0 0))) 87,oo 3 (.assign (.tmp 63)) 3,oo 4 (.assign (.const (.int .i64 6))) 35] := by kernel_rfl
def c40_80 := sB c40_78
theorem e40_80 : c40_80 = .ret := by kernel_rfl
theorem e40_78 : c40_78 = .seq c40_79 c40_80 := by kernel_rfl
def c40_81 := cE c40_77
theorem e40_81 : c40_81 = .skip := by kernel_rfl
theorem e40_77 : c40_77 = .cond (.tmp 62) c40_78 c40_81 := by kernel_rfl
theorem e40_75 : c40_75 = .seq c40_76 c40_77 := by kernel_rfl
def c40_82 := sB c40_74
def c40_83 := sA c40_82
def c40_84 := sA c40_83
theorem e40_84 : aI c40_84 = some [oo 64 (.move (.tmp 6)) 4] := by kernel_rfl
def c40_85 := sB c40_83
def c40_86 := cT c40_85
theorem e40_86 : aI c40_86 = some [oo 65 (.move (.tmp 5)) 87,oo 66 (.build 118 (List.toArray [(0,(.const (.int .i64 4)))])) 118,oo 67 (.buildSlice 87 1 (List.toArray [(0,(.tmp 66))])) 87,oo 68 (.call ⟨.builtin .append,#[(.tmp 65),(.tmp 67)],#[87,87]⟩) 87,oo 5 (.assign (.tmp 68)) 87] := by kernel_rfl
def c40_87 := cE c40_85
theorem e40_87 : c40_87 = .skip := by kernel_rfl
theorem e40_85 : c40_85 = .cond (.tmp 64) c40_86 c40_87 := by kernel_rfl
theorem e40_83 : c40_83 = .seq c40_84 c40_85 := by kernel_rfl
def c40_88 := sB c40_82
def c40_89 := sA c40_88
theorem e40_89 : aI c40_89 = some [oo 69 (.move (.tmp 5)) 87,oo 70 (.load 118 (.tmp 9)) 118,oo 71 (.buildSlice 87 1 (List.toArray [(0,(.tmp 70))])) 87,oo 72 (.call ⟨.builtin .append,#[(.tmp 69),(.tmp 71)],#[87,87]⟩) 87,oo 5 (.assign (.tmp 72)) 87,oo 6 (.assign (.const (.bool false))) 4] := by kernel_rfl
def c40_90 := sB c40_88
theorem e40_90 : aI c40_90 = some [oo 73 (.move (.tmp 7)) 3,oo 74 (.move (.tmp 8)) 3,oo 75 (.binOp .add 3 (.tmp 73) (.tmp 74) 3) 3,oo 7 (.assign (.tmp 75)) 3] := by kernel_rfl
theorem e40_88 : c40_88 = .seq c40_89 c40_90 := by kernel_rfl
theorem e40_82 : c40_82 = .seq c40_83 c40_88 := by kernel_rfl
theorem e40_74 : c40_74 = .seq c40_75 c40_82 := by kernel_rfl
theorem e40_72 : c40_72 = .seq c40_73 c40_74 := by kernel_rfl
theorem e40_31 : c40_31 = .seq c40_32 c40_72 := by kernel_rfl
theorem e40_29 : c40_29 = .seq c40_30 c40_31 := by kernel_rfl
theorem e40_28 : c40_28 = .block 1 c40_29 := by kernel_rfl
theorem e40_22 : c40_22 = .seq c40_23 c40_28 := by kernel_rfl
theorem e40_21 : c40_21 = .loop c40_22 := by kernel_rfl
theorem e40_20 : c40_20 = .block 0 c40_21 := by kernel_rfl
def c40_91 := sB c40_19
def c40_92 := sA c40_91
def c40_93 := sA c40_92
theorem e40_93 : aI c40_93 = some [oo 76 (.move (.tmp 5)) 87,oo 77 (.call ⟨.builtin .len,#[(.tmp 76)],#[87]⟩) 3,oo 78 (.binOp .gtr 3 (.tmp 77) (.const (.int .i64 4096)) 3) 4] := by kernel_rfl
def c40_94 := sB c40_92
def c40_95 := cT c40_94
def c40_96 := sA c40_95
theorem e40_96 : aI c40_96 = some [oo 2 (.assign (.const (.slice none 0 0))) 87,oo 3 (.assign (.const (.int .i64 0))) 3,oo 4 (.assign (.const (.int .i64 2))) 35] := by kernel_rfl
def c40_97 := sB c40_95
theorem e40_97 : c40_97 = .ret := by kernel_rfl
theorem e40_95 : c40_95 = .seq c40_96 c40_97 := by kernel_rfl
def c40_98 := cE c40_94
theorem e40_98 : c40_98 = .skip := by kernel_rfl
theorem e40_94 : c40_94 = .cond (.tmp 78) c40_95 c40_98 := by kernel_rfl
theorem e40_92 : c40_92 = .seq c40_93 c40_94 := by kernel_rfl
def c40_99 := sB c40_91
def c40_100 := sA c40_99
theorem e40_100 : aI c40_100 = some [oo 79 (.move (.tmp 5)) 87,oo 80 (.move (.tmp 0)) 9,oo 81 (.call ⟨.builtin .len,#[(.tmp 80)],#[9]⟩) 3,oo 2 (.assign (.tmp 79)) 87,oo 3 (.assign (.tmp 81)) 3,oo 4 (.assign (.const (.int .i64 0))) 35] := by kernel_rfl
def c40_101 := sB c40_99
theorem e40_101 : c40_101 = .ret := by kernel_rfl
theorem e40_99 : c40_99 = .seq c40_100 c40_101 := by kernel_rfl
theorem e40_91 : c40_91 = .seq c40_92 c40_99 := by kernel_rfl
theorem e40_19 : c40_19 = .seq c40_20 c40_91 := by kernel_rfl
theorem e40_17 : c40_17 = .seq c40_18 c40_19 := by kernel_rfl
theorem e40_15 : c40_15 = .seq c40_16 c40_17 := by kernel_rfl
theorem e40_13 : c40_13 = .seq c40_14 c40_15 := by kernel_rfl
theorem e40_11 : c40_11 = .seq c40_12 c40_13 := by kernel_rfl
theorem e40_3 : c40_3 = .seq c40_4 c40_11 := by kernel_rfl
theorem e40_2 : c40_2 = .scope c40_3 := by kernel_rfl
theorem e40_0 : c40_0 = .seq c40_1 c40_2 := by kernel_rfl
def c41_0 := cK Try.f41
def c41_1 := sA c41_0
theorem e41_1 : aI c41_1 = some [oo 2 (.assign (.const (.slice none 0 0))) 90] := by kernel_rfl
def c41_2 := sB c41_0
def c41_3 := sA c41_2
theorem e41_3 : aI c41_3 = some [oo 3 (.assign (.const (.slice none 0 0))) 90] := by kernel_rfl
def c41_4 := sB c41_2
def c41_5 := sA c41_4
def c41_6 := bB c41_5
def c41_7 := bB c41_6
def c41_8 := sA c41_7
def c41_9 := sA c41_8
theorem e41_9 : aI c41_9 = some [oo 5 (.move (.tmp 0)) 87,oo 6 (.call ⟨.builtin .len,#[(.tmp 5)],#[87]⟩) 3,oo 7 (.binOp .gtr 3 (.tmp 6) (.const (.int .i64 0)) 3) 4] := by kernel_rfl
def c41_10 := sB c41_8
def c41_11 := cT c41_10
theorem e41_11 : c41_11 = .skip := by kernel_rfl
def c41_12 := cE c41_10
theorem e41_12 : c41_12 = .exit 0 := by kernel_rfl
theorem e41_10 : c41_10 = .cond (.tmp 7) c41_11 c41_12 := by kernel_rfl
theorem e41_8 : c41_8 = .seq c41_9 c41_10 := by kernel_rfl
def c41_13 := sB c41_7
def c41_14 := bB c41_13
def c41_15 := sA c41_14
theorem e41_15 : aI c41_15 = some [oo 8 (.move (.tmp 0)) 87,oo 9 (.call ⟨.value (.func 66),(List.toArray [(.tmp 8),(.func 67)]),#[87,122]⟩) 3,oo 4 (.assign (.tmp 9)) 3] := by kernel_rfl
def c41_16 := sB c41_14
def c41_17 := sA c41_16
def c41_18 := sA c41_17
theorem e41_18 : aI c41_18 = some [oo 10 (.move (.tmp 4)) 3,oo 11 (.binOp .lss 3 (.tmp 10) (.const (.int .i64 0)) 3) 4] := by kernel_rfl
def c41_19 := sB c41_17
def c41_20 := cT c41_19
def c41_21 := sA c41_20
theorem e41_21 : aI c41_21 = some [oo 12 (.move (.tmp 3)) 90,oo 13 (.move (.tmp 0)) 87,oo 14 (.call ⟨.value (.func 68),(List.toArray [(.tmp 13)]),#[87]⟩) 87,oo 15 (.buildSlice 90 1 (List.toArray [(0,(.tmp 14))])) 90,oo 16 (.call ⟨.builtin .append,#[(.tmp 12),(.tmp 15)],#[90,90]⟩) 90,oo 2 (.assign (.tmp 16)) 90] := by kernel_rfl
def c41_22 := sB c41_20
theorem e41_22 : c41_22 = .ret := by kernel_rfl
theorem e41_20 : c41_20 = .seq c41_21 c41_22 := by kernel_rfl
def c41_23 := cE c41_19
theorem e41_23 : c41_23 = .skip := by kernel_rfl
theorem e41_19 : c41_19 = .cond (.tmp 11) c41_20 c41_23 := by kernel_rfl
theorem e41_17 : c41_17 = .seq c41_18 c41_19 := by kernel_rfl
def c41_24 := sB c41_16
def c41_25 := sA c41_24
theorem e41_25 : aI c41_25 = some [oo 17 (.move (.tmp 3)) 90,oo 18 (.move (.tmp 0)) 87,oo 19 (.move (.tmp 4)) 3,oo 20 (.slice 87 (.tmp 18) none (some (.tmp 19)) none) 87,oo 21 (.call ⟨.value (.func 68),(List.toArray [(.tmp 20)]),#[87]⟩) 87,oo 22 (.buildSlice 90 1 (List.toArray [(0,(.tmp 21))])) 90,oo 23 (.call ⟨.builtin .append,#[(.tmp 17),(.tmp 22)],#[90,90]⟩) 90,oo 3 (.assign (.tmp 23)) 90] := by kernel_rfl
def c41_26 := sB c41_24
def c41_27 := sA c41_26
theorem e41_27 : aI c41_27 = some [oo 24 (.move (.tmp 0)) 87,oo 25 (.move (.tmp 4)) 3,oo 26 (.binOp .add 3 (.tmp 25) (.const (.int .i64 1)) 3) 3,oo 27 (.slice 87 (.tmp 24) (some (.tmp 26)) none none) 87,oo 0 (.assign (.tmp 27)) 87] := by kernel_rfl
def c41_28 := sB c41_26
def c41_29 := sA c41_28
theorem e41_29 : aI c41_29 = some [oo 28 (.move (.tmp 0)) 87,oo 29 (.call ⟨.builtin .len,#[(.tmp 28)],#[87]⟩) 3,oo 30 (.binOp .eql 3 (.tmp 29) (.const (.int .i64 0)) 3) 4] := by kernel_rfl
def c41_30 := sB c41_28
def c41_31 := cT c41_30
theorem e41_31 : aI c41_31 = some [oo 31 (.move (.tmp 3)) 90,oo 32 (.buildSlice 90 1 (List.toArray [(0,(.const (.slice none 0 0)))])) 90,oo 33 (.call ⟨.builtin .append,#[(.tmp 31),(.tmp 32)],#[90,90]⟩) 90,oo 3 (.assign (.tmp 33)) 90] := by kernel_rfl
def c41_32 := cE c41_30
theorem e41_32 : c41_32 = .skip := by kernel_rfl
theorem e41_30 : c41_30 = .cond (.tmp 30) c41_31 c41_32 := by kernel_rfl
theorem e41_28 : c41_28 = .seq c41_29 c41_30 := by kernel_rfl
theorem e41_26 : c41_26 = .seq c41_27 c41_28 := by kernel_rfl
theorem e41_24 : c41_24 = .seq c41_25 c41_26 := by kernel_rfl
theorem e41_16 : c41_16 = .seq c41_17 c41_24 := by kernel_rfl
theorem e41_14 : c41_14 = .seq c41_15 c41_16 := by kernel_rfl
theorem e41_13 : c41_13 = .block 1 c41_14 := by kernel_rfl
theorem e41_7 : c41_7 = .seq c41_8 c41_13 := by kernel_rfl
theorem e41_6 : c41_6 = .loop c41_7 := by kernel_rfl
theorem e41_5 : c41_5 = .block 0 c41_6 := by kernel_rfl
def c41_33 := sB c41_4
def c41_34 := sA c41_33
theorem e41_34 : aI c41_34 = some [oo 34 (.move (.tmp 3)) 90,oo 2 (.assign (.tmp 34)) 90] := by kernel_rfl
def c41_35 := sB c41_33
theorem e41_35 : c41_35 = .ret := by kernel_rfl
theorem e41_33 : c41_33 = .seq c41_34 c41_35 := by kernel_rfl
theorem e41_4 : c41_4 = .seq c41_5 c41_33 := by kernel_rfl
theorem e41_2 : c41_2 = .seq c41_3 c41_4 := by kernel_rfl
theorem e41_0 : c41_0 = .seq c41_1 c41_2 := by kernel_rfl
def c42_0 := cK Try.f42
def c42_1 := sA c42_0
theorem e42_1 : aI c42_1 = some [oo 4 (.assign (.const (.bool false))) 4] := by kernel_rfl
def c42_2 := sB c42_0
def c42_3 := sA c42_2
theorem e42_3 : aI c42_3 = some [oo 6 (.move (.tmp 0)) 92,oo 7 (.nilCheck (.tmp 6)) 0,oo 8 (.fieldAddr 96 (.tmp 7) 0) 0,oo 9 (.call ⟨.value (.func 69),(List.toArray [(.tmp 8)]),#[94]⟩) 118,oo 5 (.alloc 118) 0,⟨none,none,.store 118 (.tmp 5) (.tmp 9),0⟩] := by kernel_rfl
def c42_4 := sB c42_2
def c42_5 := sA c42_4
theorem e42_5 : aI c42_5 = some [oo 10 (.move (.tmp 0)) 92,oo 11 (.nilCheck (.tmp 10)) 0,oo 12 (.fieldAddr 96 (.tmp 11) 1) 0,oo 13 (.load 4 (.tmp 12)) 4,oo 14 (.unOp .not 4 (.tmp 13)) 4,oo 15 (.move (.tmp 14)) 4,⟨some (15,true),some 16,.fieldAddr 118 (.tmp 5) 1,0⟩,⟨some (15,true),some 17,.load 9 (.tmp 16),9⟩,⟨some (15,true),some 18,.move (.tmp 1),9⟩,⟨some (15,true),some 19,.binOp .eql 9 (.tmp 17) (.tmp 18) 9,4⟩,oo 20 (.pick (.tmp 15) (.tmp 19) (.const (.bool false))) 4,oo 21 (.move (.tmp 20)) 4,⟨some (21,true),some 22,.fieldAddr 118 (.tmp 5) 0,0⟩,⟨some (21,true),some 23,.load 3 (.tmp 22),3⟩,⟨some (21,true),some 24,.binOp .eql 3 (.tmp 23) (.const (.int .i64 3)) 3,4⟩,⟨some (21,true),some 25,.move (.tmp 24),4⟩,⟨some (25,false),some 26,.fieldAddr 118 (.tmp 5) 0,0⟩,⟨some (25,false),some 27,.load 3 (.tmp 26),3⟩,⟨some (25,false),some 28,.binOp .eql 3 (.tmp 27) (.const (.int .i64 1)) 3,4⟩,⟨some (21,true),some 29,.pick (.tmp 25) (.const (.bool true)) (.tmp 28),4⟩,oo 30 (.pick (.tmp 21) (.tmp 29) (.const (.bool false))) 4,oo 4 (.assign (.tmp 30)) 4] := by kernel_rfl
def c42_6 := sB c42_4
theorem e42_6 : c42_6 = .ret := by kernel_rfl
theorem e42_4 : c42_4 = .seq c42_5 c42_6 := by kernel_rfl
theorem e42_2 : c42_2 = .seq c42_3 c42_4 := by kernel_rfl
theorem e42_0 : c42_0 = .seq c42_1 c42_2 := by kernel_rfl
def c43_0 := cK Try.f43
def c43_1 := sA c43_0
theorem e43_1 : aI c43_1 = some [oo 2 (.alloc 45) 0] := by kernel_rfl
def c43_2 := sB c43_0
def c43_3 := sA c43_2
theorem e43_3 : aI c43_3 = some [oo 3 (.move (.tmp 0)) 92,oo 4 (.call ⟨.value (.func 70),(List.toArray [(.tmp 3),(.const (.string ⟨#[116,101,110,115,111,114]⟩))]),#[92,9]⟩) 0] := by kernel_rfl
def c43_4 := sB c43_2
def c43_5 := sA c43_4
theorem e43_5 : aI c43_5 = some [oo 5 (.move (.tmp 0)) 92,oo 6 (.call ⟨.value (.func 71),(List.toArray [(.tmp 5)]),#[92]⟩) 9,oo 7 (.fieldAddr 45 (.tmp 2) 0) 0,⟨none,none,.store 9 (.tmp 7) (.tmp 6),0⟩] := by kernel_rfl
def c43_6 := sB c43_4
def c43_7 := sA c43_6
theorem e43_7 : aI c43_7 = some [oo 8 (.move (.tmp 0)) 92,oo 9 (.move (.tmp 0)) 92,oo 10 (.makeFunc (.func 73) (List.toArray [(.tmp 9)]) (List.toArray [])) 128,oo 11 (.call ⟨.value (.func 72),(List.toArray [(.tmp 8),(.tmp 10)]),#[92,128]⟩) 43,oo 12 (.fieldAddr 45 (.tmp 2) 1) 0,⟨none,none,.store 43 (.tmp 12) (.tmp 11),0⟩] := by kernel_rfl
def c43_8 := sB c43_6
def c43_9 := sA c43_8
theorem e43_9 : aI c43_9 = some [oo 13 (.move (.tmp 0)) 92,oo 14 (.call ⟨.value (.func 70),(List.toArray [(.tmp 13),(.const (.string ⟨#[58]⟩))]),#[92,9]⟩) 0] := by kernel_rfl
def c43_10 := sB c43_8
def c43_11 := sA c43_10
theorem e43_11 : aI c43_11 = some [oo 15 (.move (.tmp 0)) 92,oo 16 (.call ⟨.value (.func 74),(List.toArray [(.tmp 15),(.const (.int .i64 1))]),#[92,3]⟩) 118,oo 17 (.field 118 (.tmp 16) 1) 9,oo 18 (.fieldAddr 45 (.tmp 2) 2) 0,⟨none,none,.store 9 (.tmp 18) (.tmp 17),0⟩] := by kernel_rfl
def c43_12 := sB c43_10
def c43_13 := sA c43_12
def c43_14 := sA c43_13
theorem e43_14 : aI c43_14 = some [oo 19 (.move (.tmp 0)) 92,oo 20 (.nilCheck (.tmp 19)) 0,oo 21 (.fieldAddr 96 (.tmp 20) 0) 0,oo 22 (.call ⟨.value (.func 69),(List.toArray [(.tmp 21)]),#[94]⟩) 118,oo 23 (.field 118 (.tmp 22) 0) 3,oo 24 (.binOp .eql 3 (.tmp 23) (.const (.int .i64 2)) 3) 4] := by kernel_rfl
def c43_15 := sB c43_13
def c43_16 := cT c43_15
theorem e43_16 : aI c43_16 = some [oo 25 (.move (.tmp 0)) 92,oo 26 (.call ⟨.value (.func 73),(List.toArray [(.tmp 25)]),#[92]⟩) 3,oo 27 (.fieldAddr 45 (.tmp 2) 3) 0,⟨none,none,.store 3 (.tmp 27) (.tmp 26),0⟩] := by kernel_rfl
def c43_17 := cE c43_15
theorem e43_17 : c43_17 = .skip := by kernel_rfl
theorem e43_15 : c43_15 = .cond (.tmp 24) c43_16 c43_17 := by kernel_rfl
theorem e43_13 : c43_13 = .seq c43_14 c43_15 := by kernel_rfl
def c43_18 := sB c43_12
def c43_19 := sA c43_18
theorem e43_19 : aI c43_19 = some [oo 28 (.load 45 (.tmp 2)) 45,⟨none,none,.store 45 (.tmp 2) (.tmp 28),0⟩] := by kernel_rfl
def c43_20 := sB c43_18
theorem e43_20 : c43_20 = .ret := by kernel_rfl
theorem e43_18 : c43_18 = .seq c43_19 c43_20 := by kernel_rfl
theorem e43_12 : c43_12 = .seq c43_13 c43_18 := by kernel_rfl
theorem e43_10 : c43_10 = .seq c43_11 c43_12 := by kernel_rfl
theorem e43_8 : c43_8 = .seq c43_9 c43_10 := by kernel_rfl
theorem e43_6 : c43_6 = .seq c43_7 c43_8 := by kernel_rfl
theorem e43_4 : c43_4 = .seq c43_5 c43_6 := by kernel_rfl
theorem e43_2 : c43_2 = .seq c43_3 c43_4 := by kernel_rfl
theorem e43_0 : c43_0 = .seq c43_1 c43_2 := by kernel_rfl
def c44_0 := cK Try.f44
def c44_1 := sA c44_0
theorem e44_1 : aI c44_1 = some [oo 2 (.alloc 33) 0] := by kernel_rfl
def c44_2 := sB c44_0
def c44_3 := sA c44_2
theorem e44_3 : aI c44_3 = some [oo 3 (.move (.tmp 0)) 92,oo 4 (.call ⟨.value (.func 71),(List.toArray [(.tmp 3)]),#[92]⟩) 9,oo 5 (.fieldAddr 33 (.tmp 2) 0) 0,⟨none,none,.store 9 (.tmp 5) (.tmp 4),0⟩] := by kernel_rfl
def c44_4 := sB c44_2
def c44_5 := sA c44_4
theorem e44_5 : aI c44_5 = some [oo 6 (.move (.tmp 0)) 92,oo 7 (.move (.tmp 0)) 92,oo 8 (.makeFunc (.func 71) (List.toArray [(.tmp 7)]) (List.toArray [])) 126,oo 9 (.call ⟨.value (.func 75),(List.toArray [(.tmp 6),(.tmp 8)]),#[92,126]⟩) 28,oo 10 (.fieldAddr 33 (.tmp 2) 1) 0,⟨none,none,.store 28 (.tmp 10) (.tmp 9),0⟩] := by kernel_rfl
def c44_6 := sB c44_4
def c44_7 := sA c44_6
theorem e44_7 : aI c44_7 = some [oo 11 (.move (.tmp 0)) 92,oo 12 (.call ⟨.value (.func 70),(List.toArray [(.tmp 11),(.const (.string ⟨#[61]⟩))]),#[92,9]⟩) 0] := by kernel_rfl
def c44_8 := sB c44_6
def c44_9 := sA c44_8
theorem e44_9 : aI c44_9 = some [oo 13 (.move (.tmp 0)) 92,oo 14 (.call ⟨.value (.func 76),(List.toArray [(.tmp 13)]),#[92]⟩) 31,oo 15 (.fieldAddr 33 (.tmp 2) 2) 0,⟨none,none,.store 31 (.tmp 15) (.tmp 14),0⟩] := by kernel_rfl
def c44_10 := sB c44_8
def c44_11 := sA c44_10
theorem e44_11 : aI c44_11 = some [oo 16 (.load 33 (.tmp 2)) 33,⟨none,none,.store 33 (.tmp 2) (.tmp 16),0⟩] := by kernel_rfl
def c44_12 := sB c44_10
theorem e44_12 : c44_12 = .ret := by kernel_rfl
theorem e44_10 : c44_10 = .seq c44_11 c44_12 := by kernel_rfl
theorem e44_8 : c44_8 = .seq c44_9 c44_10 := by kernel_rfl
theorem e44_6 : c44_6 = .seq c44_7 c44_8 := by kernel_rfl
theorem e44_4 : c44_4 = .seq c44_5 c44_6 := by kernel_rfl
theorem e44_2 : c44_2 = .seq c44_3 c44_4 := by kernel_rfl
theorem e44_0 : c44_0 = .seq c44_1 c44_2 := by kernel_rfl
def c45_0 := cK Try.f45
def c45_1 := sA c45_0
theorem e45_1 : aI c45_1 = some [oo 2 (.assign (.const (.bool false))) 4] := by kernel_rfl
def c45_2 := sB c45_0
def c45_3 := sA c45_2
theorem e45_3 : aI c45_3 = some [oo 3 (.move (.tmp 0)) 92,oo 4 (.nilCheck (.tmp 3)) 0,oo 5 (.fieldAddr 96 (.tmp 4) 1) 0,oo 6 (.load 4 (.tmp 5)) 4,oo 7 (.unOp .not 4 (.tmp 6)) 4,oo 8 (.move (.tmp 7)) 4,⟨some (8,true),some 9,.move (.tmp 0),92⟩,⟨some (8,true),some 10,.nilCheck (.tmp 9),0⟩,⟨some (8,true),some 11,.fieldAddr 96 (.tmp 10) 0,0⟩,⟨some (8,true),some 12,.fieldAddr 94 (.tmp 11) 0,0⟩,⟨some (8,true),some 13,.load 87 (.tmp 12),87⟩,⟨some (8,true),some 14,.call ⟨.builtin .len,#[(.tmp 13)],#[87]⟩,3⟩,⟨some (8,true),some 15,.binOp .eql 3 (.tmp 14) (.const (.int .i64 0)) 3,4⟩,oo 16 (.pick (.tmp 8) (.tmp 15) (.const (.bool false))) 4,oo 2 (.assign (.tmp 16)) 4] := by kernel_rfl
def c45_4 := sB c45_2
theorem e45_4 : c45_4 = .ret := by kernel_rfl
theorem e45_2 : c45_2 = .seq c45_3 c45_4 := by kernel_rfl
theorem e45_0 : c45_0 = .seq c45_1 c45_2 := by kernel_rfl
def c46_0 := cK Try.f46
def c46_1 := sA c46_0
theorem e46_1 : aI c46_1 = some [oo 2 (.assign (.const (.bool false))) 4] := by kernel_rfl
def c46_2 := sB c46_0
def c46_3 := sA c46_2
theorem e46_3 : aI c46_3 = some [oo 3 (.move (.tmp 0)) 9,oo 4 (.call ⟨.value (.func 48),(List.toArray [(.tmp 3)]),#[9]⟩) 4,oo 5 (.move (.tmp 4)) 4,⟨some (5,true),some 6,.move (.tmp 0),9⟩,⟨some (5,true),some 7,.binOp .neq 9 (.tmp 6) (.const (.string ⟨#[115,117,109]⟩)) 9,4⟩,oo 8 (.pick (.tmp 5) (.tmp 7) (.const (.bool false))) 4,oo 9 (.move (.tmp 8)) 4,⟨some (9,true),some 10,.move (.tmp 0),9⟩,⟨some (9,true),some 11,.binOp .neq 9 (.tmp 10) (.const (.string ⟨#[116,101,110,115,111,114]⟩)) 9,4⟩,oo 12 (.pick (.tmp 9) (.tmp 11) (.const (.bool false))) 4,oo 2 (.assign (.tmp 12)) 4] := by kernel_rfl
def c46_4 := sB c46_2
theorem e46_4 : c46_4 = .ret := by kernel_rfl
theorem e46_2 : c46_2 = .seq c46_3 c46_4 := by kernel_rfl
theorem e46_0 : c46_0 = .seq c46_1 c46_2 := by kernel_rfl
def c47_0 := cK Try.f47
def c47_1 := sA c47_0
theorem e47_1 : aI c47_1 = some [oo 2 (.assign (.const (.bool false))) 4] := by kernel_rfl
def c47_2 := sB c47_0
def c47_3 := sA c47_2
theorem e47_3 : aI c47_3 = some [oo 3 (.move (.tmp 0)) 43,oo 4 (.call ⟨.value (.func 77),(List.toArray [(.tmp 3),(.func 78)]),#[43,133]⟩) 4,oo 5 (.unOp .not 4 (.tmp 4)) 4,oo 2 (.assign (.tmp 5)) 4] := by kernel_rfl
def c47_4 := sB c47_2
theorem e47_4 : c47_4 = .ret := by kernel_rfl
theorem e47_2 : c47_2 = .seq c47_3 c47_4 := by kernel_rfl
theorem e47_0 : c47_0 = .seq c47_1 c47_2 := by kernel_rfl
def c48_0 := cK Try.f48
def c48_1 := sA c48_0
theorem e48_1 : aI c48_1 = some [oo 2 (.assign (.const (.bool false))) 4] := by kernel_rfl
def c48_2 := sB c48_0
def c48_3 := sA c48_2
theorem e48_3 : aI c48_3 = some [oo 3 (.move (.tmp 0)) 9,oo 4 (.binOp .neq 9 (.tmp 3) (.const (.string ByteArray.empty)) 9) 4,oo 5 (.move (.tmp 4)) 4,⟨some (5,true),some 6,.move (.tmp 0),9⟩,⟨some (5,true),some 7,.call ⟨.builtin .len,#[(.tmp 6)],#[9]⟩,3⟩,⟨some (5,true),some 8,.binOp .leq 3 (.tmp 7) (.const (.int .i64 16)) 3,4⟩,oo 9 (.pick (.tmp 5) (.tmp 8) (.const (.bool false))) 4,oo 10 (.move (.tmp 9)) 4,⟨some (10,true),some 11,.move (.tmp 0),9⟩,⟨some (10,true),some 12,.index 9 (.tmp 11) (.const (.int .i64 0)),5⟩,⟨some (10,true),some 13,.call ⟨.value (.func 62),(List.toArray [(.tmp 12)]),#[5]⟩,3⟩,⟨some (10,true),some 14,.binOp .eql 3 (.tmp 13) (.const (.int .i64 1)) 3,4⟩,oo 15 (.pick (.tmp 10) (.tmp 14) (.const (.bool false))) 4,oo 16 (.move (.tmp 15)) 4,⟨some (16,true),some 17,.move (.tmp 0),9⟩,⟨some (16,true),some 18,.call ⟨.value (.func 64),(List.toArray [(.tmp 17)]),#[9]⟩,3⟩,⟨some (16,true),some 19,.move (.tmp 0),9⟩,⟨some (16,true),some 20,.call ⟨.builtin .len,#[(.tmp 19)],#[9]⟩,3⟩,⟨some (16,true),some 21,.binOp .eql 3 (.tmp 18) (.tmp 20) 3,4⟩,oo 22 (.pick (.tmp 16) (.tmp 21) (.const (.bool false))) 4,oo 2 (.assign (.tmp 22)) 4] := by kernel_rfl
def c48_4 := sB c48_2
theorem e48_4 : c48_4 = .ret := by kernel_rfl
theorem e48_2 : c48_2 = .seq c48_3 c48_4 := by kernel_rfl
theorem e48_0 : c48_0 = .seq c48_1 c48_2 := by kernel_rfl
def c49_0 := cK Try.f49
def c49_1 := sA c49_0
theorem e49_1 : aI c49_1 = some [oo 2 (.assign (.const (.bool false))) 4] := by kernel_rfl
def c49_2 := sB c49_0
def c49_3 := sA c49_2
theorem e49_3 : aI c49_3 = some [oo 3 (.move (.tmp 0)) 28,oo 4 (.call ⟨.builtin .len,#[(.tmp 3)],#[28]⟩) 3,oo 5 (.binOp .leq 3 (.tmp 4) (.const (.int .i64 4)) 3) 4,oo 6 (.move (.tmp 5)) 4,⟨some (6,true),some 7,.move (.tmp 0),28⟩,⟨some (6,true),some 8,.call ⟨.value (.func 79),(List.toArray [(.tmp 7),(.func 80)]),#[28,97]⟩,4⟩,⟨some (6,true),some 9,.unOp .not 4 (.tmp 8),4⟩,oo 10 (.pick (.tmp 6) (.tmp 9) (.const (.bool false))) 4,oo 2 (.assign (.tmp 10)) 4] := by kernel_rfl
def c49_4 := sB c49_2
theorem e49_4 : c49_4 = .ret := by kernel_rfl
theorem e49_2 : c49_2 = .seq c49_3 c49_4 := by kernel_rfl
theorem e49_0 : c49_0 = .seq c49_1 c49_2 := by kernel_rfl
def c50_0 := cK Try.f50
def c50_1 := sA c50_0
theorem e50_1 : aI c50_1 = some [oo 4 (.assign (.const (.int .i64 0))) 3] := by kernel_rfl
def c50_2 := sB c50_0
def c50_3 := sA c50_2
def c50_4 := sA c50_3
theorem e50_4 : aI c50_4 = some [oo 6 (.move (.tmp 0)) 28,oo 7 (.call ⟨.builtin .len,#[(.tmp 6)],#[28]⟩) 3,oo 8 (.move (.const (.int .i64 0))) 3] := by kernel_rfl
def c50_5 := sB c50_3
def c50_6 := bB c50_5
def c50_7 := bB c50_6
def c50_8 := sA c50_7
theorem e50_8 : aI c50_8 = some [oo 9 (.binOp .lss 3 (.tmp 8) (.tmp 7) 3) 0] := by kernel_rfl
def c50_9 := sB c50_7
def c50_10 := sA c50_9
def c50_11 := cT c50_10
theorem e50_11 : c50_11 = .skip := by kernel_rfl
def c50_12 := cE c50_10
theorem e50_12 : c50_12 = .exit 0 := by kernel_rfl
theorem e50_10 : c50_10 = .cond (.tmp 9) c50_11 c50_12 := by kernel_rfl
def c50_13 := sB c50_9
def c50_14 := sA c50_13
def c50_15 := bB c50_14
def c50_16 := sA c50_15
theorem e50_16 : aI c50_16 = some [oo 10 (.move (.tmp 8)) 3,oo 5 (.assign (.tmp 10)) 3] := by kernel_rfl
def c50_17 := sB c50_15
def c50_18 := sA c50_17
theorem e50_18 : aI c50_18 = some [oo 11 (.move (.tmp 1)) 9,oo 12 (.move (.tmp 0)) 28,oo 13 (.move (.tmp 5)) 3,oo 14 (.indexAddr 28 (.tmp 12) (.tmp 13)) 0,oo 15 (.load 9 (.tmp 14)) 9,oo 16 (.binOp .eql 9 (.tmp 11) (.tmp 15) 9) 4] := by kernel_rfl
def c50_19 := sB c50_17
def c50_20 := cT c50_19
def c50_21 := sA c50_20
theorem e50_21 : aI c50_21 = some [oo 17 (.move (.tmp 5)) 3,oo 4 (.assign (.tmp 17)) 3] := by kernel_rfl
def c50_22 := sB c50_20
theorem e50_22 : c50_22 = .ret := by kernel_rfl
theorem e50_20 : c50_20 = .seq c50_21 c50_22 := by kernel_rfl
def c50_23 := cE c50_19
theorem e50_23 : c50_23 = .skip := by kernel_rfl
theorem e50_19 : c50_19 = .cond (.tmp 16) c50_20 c50_23 := by kernel_rfl
theorem e50_17 : c50_17 = .seq c50_18 c50_19 := by kernel_rfl
theorem e50_15 : c50_15 = .seq c50_16 c50_17 := by kernel_rfl
theorem e50_14 : c50_14 = .block 1 c50_15 := by kernel_rfl
def c50_24 := sB c50_13
theorem e50_24 : aI c50_24 = some [oo 18 (.binOp .add 3 (.tmp 8) (.const (.int .i64 1)) 3) 3,oo 8 (.move (.tmp 18)) 3] := by kernel_rfl
theorem e50_13 : c50_13 = .seq c50_14 c50_24 := by kernel_rfl
theorem e50_9 : c50_9 = .seq c50_10 c50_13 := by kernel_rfl
theorem e50_7 : c50_7 = .seq c50_8 c50_9 := by kernel_rfl
theorem e50_6 : c50_6 = .loop c50_7 := by kernel_rfl
theorem e50_5 : c50_5 = .block 0 c50_6 := by kernel_rfl
theorem e50_3 : c50_3 = .seq c50_4 c50_5 := by kernel_rfl
def c50_25 := sB c50_2
def c50_26 := sA c50_25
theorem e50_26 : aI c50_26 = some [oo 4 (.assign (.const (.int .i64 (-1)))) 3] := by kernel_rfl
def c50_27 := sB c50_25
theorem e50_27 : c50_27 = .ret := by kernel_rfl
theorem e50_25 : c50_25 = .seq c50_26 c50_27 := by kernel_rfl
theorem e50_2 : c50_2 = .seq c50_3 c50_25 := by kernel_rfl
theorem e50_0 : c50_0 = .seq c50_1 c50_2 := by kernel_rfl
def c51_0 := cK Try.f51
def c51_1 := sA c51_0
theorem e51_1 : aI c51_1 = some [oo 4 (.assign (.const (.int .i64 0))) 3] := by kernel_rfl
def c51_2 := sB c51_0
def c51_3 := sA c51_2
def c51_4 := sA c51_3
theorem e51_4 : aI c51_4 = some [oo 6 (.move (.tmp 0)) 34,oo 7 (.call ⟨.builtin .len,#[(.tmp 6)],#[34]⟩) 3,oo 8 (.move (.const (.int .i64 0))) 3] := by kernel_rfl
def c51_5 := sB c51_3
def c51_6 := bB c51_5
def c51_7 := bB c51_6
def c51_8 := sA c51_7
theorem e51_8 : aI c51_8 = some [oo 9 (.binOp .lss 3 (.tmp 8) (.tmp 7) 3) 0] := by kernel_rfl
def c51_9 := sB c51_7
def c51_10 := sA c51_9
def c51_11 := cT c51_10
theorem e51_11 : c51_11 = .skip := by kernel_rfl
def c51_12 := cE c51_10
theorem e51_12 : c51_12 = .exit 0 := by kernel_rfl
theorem e51_10 : c51_10 = .cond (.tmp 9) c51_11 c51_12 := by kernel_rfl
def c51_13 := sB c51_9
def c51_14 := sA c51_13
def c51_15 := bB c51_14
def c51_16 := sA c51_15
theorem e51_16 : aI c51_16 = some [oo 10 (.move (.tmp 8)) 3,oo 5 (.assign (.tmp 10)) 3] := by kernel_rfl
def c51_17 := sB c51_15
def c51_18 := sA c51_17
theorem e51_18 : aI c51_18 = some [oo 11 (.move (.tmp 1)) 104,oo 12 (.move (.tmp 0)) 34,oo 13 (.move (.tmp 5)) 3,oo 14 (.indexAddr 34 (.tmp 12) (.tmp 13)) 0,oo 15 (.load 39 (.tmp 14)) 39,oo 16 (.call ⟨.value (.tmp 11),(List.toArray [(.tmp 15)]),#[39]⟩) 4] := by kernel_rfl
def c51_19 := sB c51_17
def c51_20 := cT c51_19
def c51_21 := sA c51_20
theorem e51_21 : aI c51_21 = some [oo 17 (.move (.tmp 5)) 3,oo 4 (.assign (.tmp 17)) 3] := by kernel_rfl
def c51_22 := sB c51_20
theorem e51_22 : c51_22 = .ret := by kernel_rfl
theorem e51_20 : c51_20 = .seq c51_21 c51_22 := by kernel_rfl
def c51_23 := cE c51_19
theorem e51_23 : c51_23 = .skip := by kernel_rfl
theorem e51_19 : c51_19 = .cond (.tmp 16) c51_20 c51_23 := by kernel_rfl
theorem e51_17 : c51_17 = .seq c51_18 c51_19 := by kernel_rfl
theorem e51_15 : c51_15 = .seq c51_16 c51_17 := by kernel_rfl
theorem e51_14 : c51_14 = .block 1 c51_15 := by kernel_rfl
def c51_24 := sB c51_13
theorem e51_24 : aI c51_24 = some [oo 18 (.binOp .add 3 (.tmp 8) (.const (.int .i64 1)) 3) 3,oo 8 (.move (.tmp 18)) 3] := by kernel_rfl
theorem e51_13 : c51_13 = .seq c51_14 c51_24 := by kernel_rfl
theorem e51_9 : c51_9 = .seq c51_10 c51_13 := by kernel_rfl
theorem e51_7 : c51_7 = .seq c51_8 c51_9 := by kernel_rfl
theorem e51_6 : c51_6 = .loop c51_7 := by kernel_rfl
theorem e51_5 : c51_5 = .block 0 c51_6 := by kernel_rfl
theorem e51_3 : c51_3 = .seq c51_4 c51_5 := by kernel_rfl
def c51_25 := sB c51_2
def c51_26 := sA c51_25
theorem e51_26 : aI c51_26 = some [oo 4 (.assign (.const (.int .i64 (-1)))) 3] := by kernel_rfl
def c51_27 := sB c51_25
theorem e51_27 : c51_27 = .ret := by kernel_rfl
theorem e51_25 : c51_25 = .seq c51_26 c51_27 := by kernel_rfl
theorem e51_2 : c51_2 = .seq c51_3 c51_25 := by kernel_rfl
theorem e51_0 : c51_0 = .seq c51_1 c51_2 := by kernel_rfl
def c52_0 := cK Try.f52
def c52_1 := sA c52_0
theorem e52_1 : aI c52_1 = some [oo 3 (.box 39 (.tmp 0)) 0,oo 4 (.assign (.const (.bool false))) 4] := by kernel_rfl
def c52_2 := sB c52_0
def c52_3 := sA c52_2
def o52_3 : List COp := [oo 5 (.fieldAddr 39 (.tmp 3) 0) 0,oo 6 (.load 9 (.tmp 5)) 9,oo 7 (.load 28 (.tmp 1)) 28,oo 8 (.load 3 (.tmp 2)) 3,oo 9 (.indexAddr 28 (.tmp 7) (.tmp 8)) 0,oo 10 (.load 9 (.tmp 9)) 9,oo 11 (.binOp .eql 9 (.tmp 6) (.tmp 10) 9) 4,oo 4 (.assign (.tmp 11)) 4]
def d52_3 : List (List Nat) := [[],[0],[],[],[2,3],[4],[1,5],[6,0,1,2,3,4,5,6]]
theorem e52_3 : rDrw c52_3 = some (o52_3,d52_3) := by kernel_rfl
theorem k52_3 : chkCs o52_3 d52_3 X52.fn.ntmps [] [[(0,false),(1,false),(2,false),(3,false),(4,false),(5,false),(6,false),(7,false)]] = true := by kernel_rfl
theorem m52_3 : chkM [0,1,2,3,4,5,6,7] [0,1,2,3,4,5,6,7] c52_3 = true := by kernel_rfl
def c52_4 := sB c52_2
theorem e52_4 : c52_4 = .ret := by kernel_rfl
theorem e52_2 : c52_2 = .seq c52_3 c52_4 := by kernel_rfl
theorem e52_0 : c52_0 = .seq c52_1 c52_2 := by kernel_rfl
def c53_0 := cK Try.f53
def c53_1 := sA c53_0
theorem e53_1 : aI c53_1 = some [oo 2 (.box 31 (.tmp 0)) 0,oo 3 (.assign (.const (.bool false))) 4] := by kernel_rfl
def c53_2 := sB c53_0
def c53_3 := sA c53_2
theorem e53_3 : aI c53_3 = some [oo 4 (.fieldAddr 31 (.tmp 2) 3) 0,oo 5 (.load 28 (.tmp 4)) 28,oo 6 (.fieldAddr 31 (.tmp 1) 2) 0,oo 7 (.load 9 (.tmp 6)) 9,oo 8 (.call ⟨.value (.func 28),(List.toArray [(.tmp 5),(.tmp 7)]),#[28,9]⟩) 4,oo 3 (.assign (.tmp 8)) 4] := by kernel_rfl
def c53_4 := sB c53_2
theorem e53_4 : c53_4 = .ret := by kernel_rfl
theorem e53_2 : c53_2 = .seq c53_3 c53_4 := by kernel_rfl
theorem e53_0 : c53_0 = .seq c53_1 c53_2 := by kernel_rfl
def c54_0 := cK Try.f54
def c54_1 := sA c54_0
theorem e54_1 : aI c54_1 = some [oo 4 (.assign (.const (.bool false))) 4] := by kernel_rfl
def c54_2 := sB c54_0
def c54_3 := sA c54_2
theorem e54_3 : aI c54_3 = some [oo 5 (.move (.tmp 0)) 29,oo 6 (.move (.tmp 1)) 59,oo 7 (.call ⟨.value (.func 81),(List.toArray [(.tmp 5),(.tmp 6)]),#[29,59]⟩) 3,oo 8 (.binOp .geq 3 (.tmp 7) (.const (.int .i64 0)) 3) 4,oo 4 (.assign (.tmp 8)) 4] := by kernel_rfl
def c54_4 := sB c54_2
theorem e54_4 : c54_4 = .ret := by kernel_rfl
theorem e54_2 : c54_2 = .seq c54_3 c54_4 := by kernel_rfl
theorem e54_0 : c54_0 = .seq c54_1 c54_2 := by kernel_rfl
def c55_0 := cK Try.f55
def c55_1 := sA c55_0
theorem e55_1 : aI c55_1 = some [oo 1 (.box 31 (.tmp 0)) 0,oo 2 (.assign (.const (.bool false))) 4] := by kernel_rfl
def c55_2 := sB c55_0
def c55_3 := sA c55_2
theorem e55_3 : aI c55_3 = some [oo 3 (.load 31 (.tmp 1)) 31,oo 4 (.call ⟨.value (.func 30),(List.toArray [(.tmp 3)]),#[31]⟩) 4,oo 5 (.unOp .not 4 (.tmp 4)) 4,oo 2 (.assign (.tmp 5)) 4] := by kernel_rfl
def c55_4 := sB c55_2
theorem e55_4 : c55_4 = .ret := by kernel_rfl
theorem e55_2 : c55_2 = .seq c55_3 c55_4 := by kernel_rfl
theorem e55_0 : c55_0 = .seq c55_1 c55_2 := by kernel_rfl
def c56_0 := cK Try.f56
def c56_1 := sA c56_0
theorem e56_1 : aI c56_1 = some [oo 4 (.box 3 (.tmp 1)) 0,oo 6 (.assign (.const (.slice none 0 0))) 78,oo 7 (.assign (.const (.int .i64 0))) 35] := by kernel_rfl
def c56_2 := sB c56_0
def c56_3 := sA c56_2
def c56_4 := sA c56_3
theorem e56_4 : aI c56_4 = some [oo 13 (.load 3 (.tmp 4)) 3,oo 14 (.binOp .lss 3 (.tmp 13) (.const (.int .i64 0)) 3) 4,oo 15 (.move (.tmp 14)) 4,⟨some (15,false),some 16,.load 3 (.tmp 4),3⟩,⟨some (15,false),some 17,.binOp .gtr 3 (.tmp 16) (.const (.int .i64 4)) 3,4⟩,oo 18 (.pick (.tmp 15) (.const (.bool true)) (.tmp 17)) 4] := by kernel_rfl
def c56_5 := sB c56_3
def c56_6 := cT c56_5
def c56_7 := sA c56_6
theorem e56_7 : aI c56_7 = some [oo 6 (.assign (.const (.slice none 0 0))) 78,oo 7 (.assign (.const (.int .i64 1))) 35] := by kernel_rfl
def c56_8 := sB c56_6
theorem e56_8 : c56_8 = .ret := by kernel_rfl
theorem e56_6 : c56_6 = .seq c56_7 c56_8 := by kernel_rfl
def c56_9 := cE c56_5
theorem e56_9 : c56_9 = .skip := by kernel_rfl
theorem e56_5 : c56_5 = .cond (.tmp 18) c56_6 c56_9 := by kernel_rfl
theorem e56_3 : c56_3 = .seq c56_4 c56_5 := by kernel_rfl
def c56_10 := sB c56_2
def c56_11 := sA c56_10
theorem e56_11 : aI c56_11 = some [oo 8 (.assign (.func 82)) 138] := by kernel_rfl
def c56_12 := sB c56_10
def c56_13 := sA c56_12
theorem e56_13 : aI c56_13 = some [oo 19 (.makeFunc (.func 83) (List.toArray []) (List.toArray [(.tmp 4)])) 139,oo 9 (.assign (.tmp 19)) 139] := by kernel_rfl
def c56_14 := sB c56_12
def c56_15 := sA c56_14
theorem e56_15 : aI c56_15 = some [oo 20 (.makeMap 140 none) 140,oo 21 (.move (.tmp 8)) 138,oo 22 (.buildSlice 43 4 (List.toArray [(0,(.const (.int .i64 0))),(1,(.const (.int .i64 0))),(2,(.const (.int .i64 1))),(3,(.const (.int .i64 1)))])) 43,oo 23 (.call ⟨.value (.tmp 21),(List.toArray [(.tmp 22)]),#[43]⟩) 78,⟨none,none,.insert 140 (.tmp 20) (.const (.string ⟨#[99,115,114]⟩)) (.tmp 23),0⟩,oo 24 (.move (.tmp 8)) 138,oo 25 (.buildSlice 43 4 (List.toArray [(0,(.const (.int .i64 0))),(1,(.const (.int .i64 1))),(2,(.const (.int .i64 1))),(3,(.const (.int .i64 0)))])) 43,oo 26 (.call ⟨.value (.tmp 24),(List.toArray [(.tmp 25)]),#[43]⟩) 78,⟨none,none,.insert 140 (.tmp 20) (.const (.string ⟨#[99,115,99]⟩)) (.tmp 26),0⟩,oo 27 (.move (.tmp 8)) 138,oo 28 (.buildSlice 43 4 (List.toArray [(0,(.const (.int .i64 1))),(1,(.const (.int .i64 0))),(2,(.const (.int .i64 1))),(3,(.const (.int .i64 1)))])) 43,oo 29 (.call ⟨.value (.tmp 27),(List.toArray [(.tmp 28)]),#[43]⟩) 78,⟨none,none,.insert 140 (.tmp 20) (.const (.string ⟨#[100,99,115,114]⟩)) (.tmp 29),0⟩,oo 30 (.move (.tmp 8)) 138,oo 31 (.buildSlice 43 4 (List.toArray [(0,(.const (.int .i64 1))),(1,(.const (.int .i64 1))),(2,(.const (.int .i64 1))),(3,(.const (.int .i64 0)))])) 43,oo 32 (.call ⟨.value (.tmp 30),(List.toArray [(.tmp 31)]),#[43]⟩) 78,⟨none,none,.insert 140 (.tmp 20) (.const (.string ⟨#[100,99,115,99]⟩)) (.tmp 32),0⟩,oo 33 (.move (.tmp 8)) 138,oo 34 (.buildSlice 43 4 (List.toArray [(0,(.const (.int .i64 0))),(1,(.const (.int .i64 0))),(2,(.const (.int .i64 1))),(3,(.const (.int .i64 1)))])) 43,oo 35 (.call ⟨.value (.tmp 33),(List.toArray [(.tmp 34)]),#[43]⟩) 78,oo 36 (.move (.tmp 2)) 3,oo 37 (.build 137 (List.toArray [(0,(.const (.int .i64 4))),(2,(.tmp 36))])) 137,oo 38 (.move (.tmp 2)) 3,oo 39 (.build 137 (List.toArray [(0,(.const (.int .i64 4))),(1,(.const (.int .i64 1))),(2,(.tmp 38))])) 137,oo 40 (.buildSlice 78 2 (List.toArray [(0,(.tmp 37)),(1,(.tmp 39))])) 78,oo 41 (.call ⟨.builtin .append,#[(.tmp 35),(.tmp 40)],#[78,78]⟩) 78,⟨none,none,.insert 140 (.tmp 20) (.const (.string ⟨#[98,115,114]⟩)) (.tmp 41),0⟩,oo 42 (.move (.tmp 20)) 140,oo 10 (.assign (.tmp 42)) 140] := by kernel_rfl
def c56_16 := sB c56_14
def c56_17 := sA c56_16
theorem e56_17 : aI c56_17 = some [oo 44 (.move (.tmp 10)) 140,oo 45 (.move (.tmp 0)) 9,oo 46 (.lookup 140 (.tmp 44) (.tmp 45) true) 141,oo 43 (.move (.tmp 46)) 141,oo 47 (.extract (.tmp 43) 0) 78,oo 48 (.extract (.tmp 43) 1) 4,oo 11 (.assign (.tmp 47)) 78,oo 12 (.assign (.tmp 48)) 4] := by kernel_rfl
def c56_18 := sB c56_16
def c56_19 := sA c56_18
def c56_20 := bB c56_19
def c56_21 := sA c56_20
theorem e56_21 : aI c56_21 = some [oo 50 (.move (.tmp 0)) 9,oo 51 (.binOp .eql 9 (.tmp 50) (.const (.string ⟨#[100,101,110,115,101]⟩)) 9) 4,oo 49 (.assign (.tmp 51)) 4] := by kernel_rfl
def c56_22 := sB c56_20
def c56_23 := cT c56_22
def c56_24 := sA c56_23
theorem e56_24 : aI c56_24 = some [oo 52 (.move (.tmp 9)) 139,oo 53 (.call ⟨.value (.tmp 52),(List.toArray [(.const (.int .i64 0)),(.const (.int .i64 0))]),#[3,3]⟩) 78,oo 6 (.assign (.tmp 53)) 78,oo 7 (.assign (.const (.int .i64 0))) 35] := by kernel_rfl
def c56_25 := sB c56_23
theorem e56_25 : c56_25 = .ret := by kernel_rfl
theorem e56_23 : c56_23 = .seq c56_24 c56_25 := by kernel_rfl
def c56_26 := cE c56_22
def c56_27 := sA c56_26
theorem e56_27 : aI c56_27 = some [oo 55 (.move (.tmp 0)) 9,oo 56 (.binOp .eql 9 (.tmp 55) (.const (.string ⟨#[99,115,102]⟩)) 9) 4,oo 54 (.assign (.tmp 56)) 4] := by kernel_rfl
def c56_28 := sB c56_26
def c56_29 := cT c56_28
def c56_30 := sA c56_29
theorem e56_30 : aI c56_30 = some [oo 57 (.move (.tmp 9)) 139,oo 58 (.call ⟨.value (.tmp 57),(List.toArray [(.const (.int .i64 1)),(.const (.int .i64 1))]),#[3,3]⟩) 78,oo 6 (.assign (.tmp 58)) 78,oo 7 (.assign (.const (.int .i64 0))) 35] := by kernel_rfl
def c56_31 := sB c56_29
theorem e56_31 : c56_31 = .ret := by kernel_rfl
theorem e56_29 : c56_29 = .seq c56_30 c56_31 := by kernel_rfl
def c56_32 := cE c56_28
def c56_33 := sA c56_32
theorem e56_33 : aI c56_33 = some [oo 60 (.move (.tmp 0)) 9,oo 61 (.binOp .eql 9 (.tmp 60) (.const (.string ⟨#[99,111,111]⟩)) 9) 4,oo 62 (.move (.tmp 61)) 4,⟨some (62,true),some 63,.load 3 (.tmp 4),3⟩,⟨some (62,true),some 64,.binOp .gtr 3 (.tmp 63) (.const (.int .i64 0)) 3,4⟩,oo 65 (.pick (.tmp 62) (.tmp 64) (.const (.bool false))) 4,oo 59 (.assign (.tmp 65)) 4] := by kernel_rfl
def c56_34 := sB c56_32
def c56_35 := cT c56_34
def c56_36 := sA c56_35
theorem e56_36 : aI c56_36 = some [oo 66 (.move (.tmp 9)) 139,oo 67 (.call ⟨.value (.tmp 66),(List.toArray [(.const (.int .i64 2)),(.const (.int .i64 3))]),#[3,3]⟩) 78,oo 6 (.assign (.tmp 67)) 78,oo 7 (.assign (.const (.int .i64 0))) 35] := by kernel_rfl
def c56_37 := sB c56_35
theorem e56_37 : c56_37 = .ret := by kernel_rfl
theorem e56_35 : c56_35 = .seq c56_36 c56_37 := by kernel_rfl
def c56_38 := cE c56_34
def c56_39 := sA c56_38
theorem e56_39 : aI c56_39 = some [oo 69 (.move (.tmp 12)) 4,oo 70 (.unOp .not 4 (.tmp 69)) 4,oo 71 (.move (.tmp 70)) 4,⟨some (71,false),some 72,.load 3 (.tmp 4),3⟩,⟨some (71,false),some 73,.binOp .neq 3 (.tmp 72) (.const (.int .i64 2)) 3,4⟩,oo 74 (.pick (.tmp 71) (.const (.bool true)) (.tmp 73)) 4,oo 68 (.assign (.tmp 74)) 4] := by kernel_rfl
def c56_40 := sB c56_38
def c56_41 := cT c56_40
def c56_42 := sA c56_41
theorem e56_42 : aI c56_42 = some [oo 6 (.assign (.const (.slice none 0 0))) 78,oo 7 (.assign (.const (.int .i64 5))) 35] := by kernel_rfl
def c56_43 := sB c56_41
theorem e56_43 : c56_43 = .ret := by kernel_rfl
theorem e56_41 : c56_41 = .seq c56_42 c56_43 := by kernel_rfl
def c56_44 := cE c56_40
def c56_45 := sA c56_44
theorem e56_45 : aI c56_45 = some [oo 76 (.move (.tmp 0)) 9,oo 77 (.binOp .eql 9 (.tmp 76) (.const (.string ⟨#[98,115,114]⟩)) 9) 4,oo 78 (.move (.tmp 77)) 4,⟨some (78,true),some 79,.move (.tmp 2),3⟩,⟨some (78,true),some 80,.binOp .lss 3 (.tmp 79) (.const (.int .i64 1)) 3,4⟩,oo 81 (.pick (.tmp 78) (.tmp 80) (.const (.bool false))) 4,oo 75 (.assign (.tmp 81)) 4] := by kernel_rfl
def c56_46 := sB c56_44
def c56_47 := cT c56_46
def c56_48 := sA c56_47
theorem e56_48 : aI c56_48 = some [oo 6 (.assign (.const (.slice none 0 0))) 78,oo 7 (.assign (.const (.int .i64 1))) 35] := by kernel_rfl
def c56_49 := sB c56_47
theorem e56_49 : c56_49 = .ret := by kernel_rfl
theorem e56_47 : c56_47 = .seq c56_48 c56_49 := by kernel_rfl
def c56_50 := cE c56_46
theorem e56_50 : c56_50 = .skip := by kernel_rfl
theorem e56_46 : c56_46 = .cond (.tmp 75) c56_47 c56_50 := by kernel_rfl
theorem e56_44 : c56_44 = .seq c56_45 c56_46 := by kernel_rfl
theorem e56_40 : c56_40 = .cond (.tmp 68) c56_41 c56_44 := by kernel_rfl
theorem e56_38 : c56_38 = .seq c56_39 c56_40 := by kernel_rfl
theorem e56_34 : c56_34 = .cond (.tmp 59) c56_35 c56_38 := by kernel_rfl
theorem e56_32 : c56_32 = .seq c56_33 c56_34 := by kernel_rfl
theorem e56_28 : c56_28 = .cond (.tmp 54) c56_29 c56_32 := by kernel_rfl
theorem e56_26 : c56_26 = .seq c56_27 c56_28 := by kernel_rfl
theorem e56_22 : c56_22 = .cond (.tmp 49) c56_23 c56_26 := by kernel_rfl
theorem e56_20 : c56_20 = .seq c56_21 c56_22 := by kernel_rfl
theorem e56_19 : c56_19 = .block 0 c56_20 := by kernel_rfl
def c56_51 := sB c56_18
def c56_52 := sA c56_51
theorem e56_52 : aI c56_52 = some [oo 82 (.move (.tmp 11)) 78,oo 6 (.assign (.tmp 82)) 78,oo 7 (.assign (.const (.int .i64 0))) 35] := by kernel_rfl
def c56_53 := sB c56_51
theorem e56_53 : c56_53 = .ret := by kernel_rfl
theorem e56_51 : c56_51 = .seq c56_52 c56_53 := by kernel_rfl
theorem e56_18 : c56_18 = .seq c56_19 c56_51 := by kernel_rfl
theorem e56_16 : c56_16 = .seq c56_17 c56_18 := by kernel_rfl
theorem e56_14 : c56_14 = .seq c56_15 c56_16 := by kernel_rfl
theorem e56_12 : c56_12 = .seq c56_13 c56_14 := by kernel_rfl
theorem e56_10 : c56_10 = .seq c56_11 c56_12 := by kernel_rfl
theorem e56_2 : c56_2 = .seq c56_3 c56_10 := by kernel_rfl
theorem e56_0 : c56_0 = .seq c56_1 c56_2 := by kernel_rfl
def c57_0 := cK Try.f57
def c57_1 := sA c57_0
theorem e57_1 : aI c57_1 = some [oo 4 (.assign (.const (.int .i64 0))) 35] := by kernel_rfl
def c57_2 := sB c57_0
def c57_3 := sA c57_2
theorem e57_3 : aI c57_3 = some [oo 8 (.move (.tmp 0)) 43,oo 9 (.move (.tmp 1)) 78,oo 10 (.call ⟨.value (.func 84),(List.toArray [(.tmp 8),(.tmp 9)]),#[43,78]⟩) 73,oo 7 (.move (.tmp 10)) 73,oo 11 (.extract (.tmp 7) 0) 43,oo 12 (.extract (.tmp 7) 1) 35,oo 5 (.assign (.tmp 11)) 43,oo 6 (.assign (.tmp 12)) 35] := by kernel_rfl
def c57_4 := sB c57_2
def c57_5 := sA c57_4
theorem e57_5 : aI c57_5 = some [oo 13 (.move (.tmp 6)) 35,oo 4 (.assign (.tmp 13)) 35] := by kernel_rfl
def c57_6 := sB c57_4
theorem e57_6 : c57_6 = .ret := by kernel_rfl
theorem e57_4 : c57_4 = .seq c57_5 c57_6 := by kernel_rfl
theorem e57_2 : c57_2 = .seq c57_3 c57_4 := by kernel_rfl
theorem e57_0 : c57_0 = .seq c57_1 c57_2 := by kernel_rfl
def c58_0 := cK Try.f58
def c58_1 := sA c58_0
theorem e58_1 : aI c58_1 = some [oo 2 (.assign (.const (.slice none 0 0))) 29] := by kernel_rfl
def c58_2 := sB c58_0
def c58_3 := sA c58_2
def c58_4 := sA c58_3
theorem e58_4 : aI c58_4 = some [oo 3 (.move (.tmp 0)) 29,oo 4 (.binOp .eql 29 (.tmp 3) (.const (.slice none 0 0)) 29) 4] := by kernel_rfl
def c58_5 := sB c58_3
def c58_6 := cT c58_5
def c58_7 := sA c58_6
theorem e58_7 : aI c58_7 = some [oo 2 (.assign (.const (.slice none 0 0))) 29] := by kernel_rfl
def c58_8 := sB c58_6
theorem e58_8 : c58_8 = .ret := by kernel_rfl
theorem e58_6 : c58_6 = .seq c58_7 c58_8 := by kernel_rfl
def c58_9 := cE c58_5
theorem e58_9 : c58_9 = .skip := by kernel_rfl
theorem e58_5 : c58_5 = .cond (.tmp 4) c58_6 c58_9 := by kernel_rfl
theorem e58_3 : c58_3 = .seq c58_4 c58_5 := by kernel_rfl
def c58_10 := sB c58_2
def c58_11 := sA c58_10
theorem e58_11 : aI c58_11 = some [oo 5 (.buildSlice 29 0 (List.toArray [])) 29,oo 6 (.move (.tmp 0)) 29,oo 7 (.call ⟨.builtin .append,#[(.tmp 5),(.tmp 6)],#[29,29]⟩) 29,oo 2 (.assign (.tmp 7)) 29] := by kernel_rfl
def c58_12 := sB c58_10
theorem e58_12 : c58_12 = .ret := by kernel_rfl
theorem e58_10 : c58_10 = .seq c58_11 c58_12 := by kernel_rfl
theorem e58_2 : c58_2 = .seq c58_3 c58_10 := by kernel_rfl
theorem e58_0 : c58_0 = .seq c58_1 c58_2 := by kernel_rfl
def c59_0 := cK Try.f59
def c59_1 := sA c59_0
theorem e59_1 : aI c59_1 = some [oo 1 (.box 28 (.tmp 0)) 0,oo 2 (.assign (.const .nilFunc)) 110] := by kernel_rfl
def c59_2 := sB c59_0
def c59_3 := sA c59_2
theorem e59_3 : aI c59_3 = some [oo 3 (.makeFunc (.func 85) (List.toArray []) (List.toArray [(.tmp 1)])) 109,oo 2 (.assign (.tmp 3)) 110] := by kernel_rfl
def c59_4 := sB c59_2
theorem e59_4 : c59_4 = .ret := by kernel_rfl
theorem e59_2 : c59_2 = .seq c59_3 c59_4 := by kernel_rfl
theorem e59_0 : c59_0 = .seq c59_1 c59_2 := by kernel_rfl
def c60_0 := cK Try.f60
def c60_1 := sA c60_0
theorem e60_1 : aI c60_1 = some [oo 2 (.assign (.const (.slice none 0 0))) 28] := by kernel_rfl
def c60_2 := sB c60_0
def c60_3 := sA c60_2
def c60_4 := sA c60_3
theorem e60_4 : aI c60_4 = some [oo 3 (.move (.tmp 0)) 28,oo 4 (.binOp .eql 28 (.tmp 3) (.const (.slice none 0 0)) 28) 4] := by kernel_rfl
def c60_5 := sB c60_3
def c60_6 := cT c60_5
def c60_7 := sA c60_6
theorem e60_7 : aI c60_7 = some [oo 2 (.assign (.const (.slice none 0 0))) 28] := by kernel_rfl
def c60_8 := sB c60_6
theorem e60_8 : c60_8 = .ret := by kernel_rfl
theorem e60_6 : c60_6 = .seq c60_7 c60_8 := by kernel_rfl
def c60_9 := cE c60_5
theorem e60_9 : c60_9 = .skip := by kernel_rfl
theorem e60_5 : c60_5 = .cond (.tmp 4) c60_6 c60_9 := by kernel_rfl
theorem e60_3 : c60_3 = .seq c60_4 c60_5 := by kernel_rfl
def c60_10 := sB c60_2
def c60_11 := sA c60_10
theorem e60_11 : aI c60_11 = some [oo 5 (.buildSlice 28 0 (List.toArray [])) 28,oo 6 (.move (.tmp 0)) 28,oo 7 (.call ⟨.builtin .append,#[(.tmp 5),(.tmp 6)],#[28,28]⟩) 28,oo 2 (.assign (.tmp 7)) 28] := by kernel_rfl
def c60_12 := sB c60_10
theorem e60_12 : c60_12 = .ret := by kernel_rfl
theorem e60_10 : c60_10 = .seq c60_11 c60_12 := by kernel_rfl
theorem e60_2 : c60_2 = .seq c60_3 c60_10 := by kernel_rfl
theorem e60_0 : c60_0 = .seq c60_1 c60_2 := by kernel_rfl
def c61_0 := cK Try.f61
def c61_1 := sA c61_0
theorem e61_1 : aI c61_1 = some [oo 2 (.assign (.const (.int .i64 0))) 3] := by kernel_rfl
def c61_2 := sB c61_0
def c61_3 := sA c61_2
def c61_4 := sA c61_3
theorem e61_4 : aI c61_4 = some [oo 3 (.move (.tmp 0)) 3] := by kernel_rfl
def c61_5 := sB c61_3
def c61_6 := bB c61_5
def c61_7 := sA c61_6
def c61_8 := sA c61_7
theorem e61_8 : aI c61_8 = some [oo 5 (.binOp .eql 3 (.tmp 3) (.const (.int .i64 1)) 3) 4,oo 4 (.assign (.tmp 5)) 4] := by kernel_rfl
def c61_9 := sB c61_7
def c61_10 := cT c61_9
theorem e61_10 : c61_10 = .skip := by kernel_rfl
def c61_11 := cE c61_9
theorem e61_11 : aI c61_11 = some [oo 6 (.binOp .eql 3 (.tmp 3) (.const (.int .i64 2)) 3) 4,oo 4 (.assign (.tmp 6)) 4] := by kernel_rfl
theorem e61_9 : c61_9 = .cond (.tmp 4) c61_10 c61_11 := by kernel_rfl
theorem e61_7 : c61_7 = .seq c61_8 c61_9 := by kernel_rfl
def c61_12 := sB c61_6
def c61_13 := cT c61_12
def c61_14 := sA c61_13
theorem e61_14 : aI c61_14 = some [oo 2 (.assign (.const (.int .i64 0))) 3] := by kernel_rfl
def c61_15 := sB c61_13
theorem e61_15 : c61_15 = .ret := by kernel_rfl
theorem e61_13 : c61_13 = .seq c61_14 c61_15 := by kernel_rfl
def c61_16 := cE c61_12
def c61_17 := sA c61_16
def c61_18 := sA c61_17
theorem e61_18 : aI c61_18 = some [oo 8 (.binOp .eql 3 (.tmp 3) (.const (.int .i64 6)) 3) 4,oo 7 (.assign (.tmp 8)) 4] := by kernel_rfl
def c61_19 := sB c61_17
def c61_20 := cT c61_19
theorem e61_20 : c61_20 = .skip := by kernel_rfl
def c61_21 := cE c61_19
theorem e61_21 : aI c61_21 = some [oo 9 (.binOp .eql 3 (.tmp 3) (.const (.int .i64 7)) 3) 4,oo 7 (.assign (.tmp 9)) 4] := by kernel_rfl
theorem e61_19 : c61_19 = .cond (.tmp 7) c61_20 c61_21 := by kernel_rfl
theorem e61_17 : c61_17 = .seq c61_18 c61_19 := by kernel_rfl
def c61_22 := sB c61_16
def c61_23 := cT c61_22
def c61_24 := sA c61_23
theorem e61_24 : aI c61_24 = some [oo 2 (.assign (.const (.int .i64 1))) 3] := by kernel_rfl
def c61_25 := sB c61_23
theorem e61_25 : c61_25 = .ret := by kernel_rfl
theorem e61_23 : c61_23 = .seq c61_24 c61_25 := by kernel_rfl
def c61_26 := cE c61_22
def c61_27 := sA c61_26
def c61_28 := sA c61_27
theorem e61_28 : aI c61_28 = some [oo 11 (.binOp .eql 3 (.tmp 3) (.const (.int .i64 3)) 3) 4,oo 10 (.assign (.tmp 11)) 4] := by kernel_rfl
def c61_29 := sB c61_27
def c61_30 := cT c61_29
theorem e61_30 : c61_30 = .skip := by kernel_rfl
def c61_31 := cE c61_29
def c61_32 := sA c61_31
theorem e61_32 : aI c61_32 = some [oo 12 (.binOp .eql 3 (.tmp 3) (.const (.int .i64 4)) 3) 4,oo 10 (.assign (.tmp 12)) 4] := by kernel_rfl
def c61_33 := sB c61_31
def c61_34 := cT c61_33
theorem e61_34 : c61_34 = .skip := by kernel_rfl
def c61_35 := cE c61_33
theorem e61_35 : aI c61_35 = some [oo 13 (.binOp .eql 3 (.tmp 3) (.const (.int .i64 5)) 3) 4,oo 10 (.assign (.tmp 13)) 4] := by kernel_rfl
theorem e61_33 : c61_33 = .cond (.tmp 10) c61_34 c61_35 := by kernel_rfl
theorem e61_31 : c61_31 = .seq c61_32 c61_33 := by kernel_rfl
theorem e61_29 : c61_29 = .cond (.tmp 10) c61_30 c61_31 := by kernel_rfl
theorem e61_27 : c61_27 = .seq c61_28 c61_29 := by kernel_rfl
def c61_36 := sB c61_26
def c61_37 := cT c61_36
def c61_38 := sA c61_37
theorem e61_38 : aI c61_38 = some [oo 2 (.assign (.const (.int .i64 2))) 3] := by kernel_rfl
def c61_39 := sB c61_37
theorem e61_39 : c61_39 = .ret := by kernel_rfl
theorem e61_37 : c61_37 = .seq c61_38 c61_39 := by kernel_rfl
def c61_40 := cE c61_36
theorem e61_40 : c61_40 = .skip := by kernel_rfl
theorem e61_36 : c61_36 = .cond (.tmp 10) c61_37 c61_40 := by kernel_rfl
theorem e61_26 : c61_26 = .seq c61_27 c61_36 := by kernel_rfl
theorem e61_22 : c61_22 = .cond (.tmp 7) c61_23 c61_26 := by kernel_rfl
theorem e61_16 : c61_16 = .seq c61_17 c61_22 := by kernel_rfl
theorem e61_12 : c61_12 = .cond (.tmp 4) c61_13 c61_16 := by kernel_rfl
theorem e61_6 : c61_6 = .seq c61_7 c61_12 := by kernel_rfl
theorem e61_5 : c61_5 = .block 0 c61_6 := by kernel_rfl
theorem e61_3 : c61_3 = .seq c61_4 c61_5 := by kernel_rfl
def c61_41 := sB c61_2
def c61_42 := sA c61_41
theorem e61_42 : aI c61_42 = some [oo 2 (.assign (.const (.int .i64 (-1)))) 3] := by kernel_rfl
def c61_43 := sB c61_41
theorem e61_43 : c61_43 = .ret := by kernel_rfl
theorem e61_41 : c61_41 = .seq c61_42 c61_43 := by kernel_rfl
theorem e61_2 : c61_2 = .seq c61_3 c61_41 := by kernel_rfl
theorem e61_0 : c61_0 = .seq c61_1 c61_2 := by kernel_rfl
def c62_0 := cK Try.f62
def c62_1 := sA c62_0
theorem e62_1 : aI c62_1 = some [oo 2 (.assign (.const (.int .i64 0))) 3] := by kernel_rfl
def c62_2 := sB c62_0
def c62_3 := sA c62_2
def c62_4 := bB c62_3
def c62_5 := sA c62_4
theorem e62_5 : aI c62_5 = some [oo 4 (.move (.tmp 0)) 5,oo 5 (.binOp .or 5 (.tmp 4) (.const (.int .u8 32)) 5) 5,oo 6 (.binOp .geq 5 (.tmp 5) (.const (.int .u8 97)) 5) 4,oo 7 (.move (.tmp 6)) 4,⟨some (7,true),some 8,.move (.tmp 0),5⟩,⟨some (7,true),some 9,.binOp .or 5 (.tmp 8) (.const (.int .u8 32)) 5,5⟩,⟨some (7,true),some 10,.binOp .leq 5 (.tmp 9) (.const (.int .u8 122)) 5,4⟩,oo 11 (.pick (.tmp 7) (.tmp 10) (.const (.bool false))) 4,oo 3 (.assign (.tmp 11)) 4] := by kernel_rfl
def c62_6 := sB c62_4
def c62_7 := cT c62_6
def c62_8 := sA c62_7
theorem e62_8 : aI c62_8 = some [oo 2 (.assign (.const (.int .i64 1))) 3] := by kernel_rfl
def c62_9 := sB c62_7
theorem e62_9 : c62_9 = .ret := by kernel_rfl
theorem e62_7 : c62_7 = .seq c62_8 c62_9 := by kernel_rfl
def c62_10 := cE c62_6
def c62_11 := sA c62_10
theorem e62_11 : aI c62_11 = some [oo 13 (.move (.tmp 0)) 5,oo 14 (.binOp .geq 5 (.tmp 13) (.const (.int .u8 48)) 5) 4,oo 15 (.move (.tmp 14)) 4,⟨some (15,true),some 16,.move (.tmp 0),5⟩,⟨some (15,true),some 17,.binOp .leq 5 (.tmp 16) (.const (.int .u8 57)) 5,4⟩,oo 18 (.pick (.tmp 15) (.tmp 17) (.const (.bool false))) 4,oo 12 (.assign (.tmp 18)) 4] := by kernel_rfl
def c62_12 := sB c62_10
def c62_13 := cT c62_12
def c62_14 := sA c62_13
theorem e62_14 : aI c62_14 = some [oo 2 (.assign (.const (.int .i64 2))) 3] := by kernel_rfl
def c62_15 := sB c62_13
theorem e62_15 : c62_15 = .ret := by kernel_rfl
theorem e62_13 : c62_13 = .seq c62_14 c62_15 := by kernel_rfl
def c62_16 := cE c62_12
def c62_17 := sA c62_16
theorem e62_17 : aI c62_17 = some [oo 20 (.move (.tmp 0)) 5,oo 21 (.call ⟨.value (.func 63),(List.toArray [(.const (.string ⟨#[43,45,42,40,41,91,93,44,61,58]⟩)),(.tmp 20)]),#[9,5]⟩) 3,oo 22 (.binOp .geq 3 (.tmp 21) (.const (.int .i64 0)) 3) 4,oo 19 (.assign (.tmp 22)) 4] := by kernel_rfl
def c62_18 := sB c62_16
def c62_19 := cT c62_18
def c62_20 := sA c62_19
theorem e62_20 : aI c62_20 = some [oo 2 (.assign (.const (.int .i64 3))) 3] := by kernel_rfl
def c62_21 := sB c62_19
theorem e62_21 : c62_21 = .ret := by kernel_rfl
theorem e62_19 : c62_19 = .seq c62_20 c62_21 := by kernel_rfl
def c62_22 := cE c62_18
def c62_23 := sA c62_22
theorem e62_23 : aI c62_23 = some [oo 24 (.move (.tmp 0)) 5,oo 25 (.binOp .eql 5 (.tmp 24) (.const (.int .u8 32)) 5) 4,oo 26 (.move (.tmp 25)) 4,⟨some (26,false),some 27,.move (.tmp 0),5⟩,⟨some (26,false),some 28,.binOp .eql 5 (.tmp 27) (.const (.int .u8 9)) 5,4⟩,oo 29 (.pick (.tmp 26) (.const (.bool true)) (.tmp 28)) 4,oo 23 (.assign (.tmp 29)) 4] := by kernel_rfl
def c62_24 := sB c62_22
def c62_25 := cT c62_24
def c62_26 := sA c62_25
theorem e62_26 : aI c62_26 = some [oo 2 (.assign (.const (.int .i64 4))) 3] := by kernel_rfl
def c62_27 := sB c62_25
theorem e62_27 : c62_27 = .ret := by kernel_rfl
theorem e62_25 : c62_25 = .seq c62_26 c62_27 := by kernel_rfl
def c62_28 := cE c62_24
def c62_29 := sA c62_28
theorem e62_29 : aI c62_29 = some [oo 31 (.move (.tmp 0)) 5,oo 32 (.binOp .eql 5 (.tmp 31) (.const (.int .u8 10)) 5) 4,oo 30 (.assign (.tmp 32)) 4] := by kernel_rfl
def c62_30 := sB c62_28
def c62_31 := cT c62_30
def c62_32 := sA c62_31
theorem e62_32 : aI c62_32 = some [oo 2 (.assign (.const (.int .i64 5))) 3] := by kernel_rfl
def c62_33 := sB c62_31
theorem e62_33 : c62_33 = .ret := by kernel_rfl
theorem e62_31 : c62_31 = .seq c62_32 c62_33 := by kernel_rfl
def c62_34 := cE c62_30
def c62_35 := sA c62_34
theorem e62_35 : aI c62_35 = some [oo 34 (.move (.tmp 0)) 5,oo 35 (.binOp .eql 5 (.tmp 34) (.const (.int .u8 35)) 5) 4,oo 33 (.assign (.tmp 35)) 4] := by kernel_rfl
def c62_36 := sB c62_34
def c62_37 := cT c62_36
def c62_38 := sA c62_37
theorem e62_38 : aI c62_38 = some [oo 2 (.assign (.const (.int .i64 6))) 3] := by kernel_rfl
def c62_39 := sB c62_37
theorem e62_39 : c62_39 = .ret := by kernel_rfl
theorem e62_37 : c62_37 = .seq c62_38 c62_39 := by kernel_rfl
def c62_40 := cE c62_36
theorem e62_40 : c62_40 = .skip := by kernel_rfl
theorem e62_36 : c62_36 = .cond (.tmp 33) c62_37 c62_40 := by kernel_rfl
theorem e62_34 : c62_34 = .seq c62_35 c62_36 := by kernel_rfl
theorem e62_30 : c62_30 = .cond (.tmp 30) c62_31 c62_34 := by kernel_rfl
theorem e62_28 : c62_28 = .seq c62_29 c62_30 := by kernel_rfl
theorem e62_24 : c62_24 = .cond (.tmp 23) c62_25 c62_28 := by kernel_rfl
theorem e62_22 : c62_22 = .seq c62_23 c62_24 := by kernel_rfl
theorem e62_18 : c62_18 = .cond (.tmp 19) c62_19 c62_22 := by kernel_rfl
theorem e62_16 : c62_16 = .seq c62_17 c62_18 := by kernel_rfl
theorem e62_12 : c62_12 = .cond (.tmp 12) c62_13 c62_16 := by kernel_rfl
theorem e62_10 : c62_10 = .seq c62_11 c62_12 := by kernel_rfl
theorem e62_6 : c62_6 = .cond (.tmp 3) c62_7 c62_10 := by kernel_rfl
theorem e62_4 : c62_4 = .seq c62_5 c62_6 := by kernel_rfl
theorem e62_3 : c62_3 = .block 0 c62_4 := by kernel_rfl
def c62_41 := sB c62_2
def c62_42 := sA c62_41
theorem e62_42 : aI c62_42 = some [oo 2 (.assign (.const (.int .i64 0))) 3] := by kernel_rfl
def c62_43 := sB c62_41
theorem e62_43 : c62_43 = .ret := by kernel_rfl
theorem e62_41 : c62_41 = .seq c62_42 c62_43 := by kernel_rfl
theorem e62_2 : c62_2 = .seq c62_3 c62_41 := by kernel_rfl
theorem e62_0 : c62_0 = .seq c62_1 c62_2 := by kernel_rfl
def c63_0 := cK Try.f63
def c63_1 := sA c63_0
theorem e63_1 : aI c63_1 = some [oo 4 (.assign (.const (.int .i64 0))) 3] := by kernel_rfl
def c63_2 := sB c63_0
def c63_3 := sA c63_2
theorem e63_3 : aI c63_3 = some [oo 5 (.move (.tmp 0)) 9,oo 6 (.move (.tmp 1)) 5,oo 7 (.call ⟨.value (.func 86),(List.toArray [(.tmp 5),(.tmp 6)]),#[9,5]⟩) 3,oo 4 (.assign (.tmp 7)) 3] := by kernel_rfl
def c63_4 := sB c63_2
theorem e63_4 : c63_4 = .ret := by kernel_rfl
theorem e63_2 : c63_2 = .seq c63_3 c63_4 := by kernel_rfl
theorem e63_0 : c63_0 = .seq c63_1 c63_2 := by kernel_rfl
def c64_0 := cK Try.f64
def c64_1 := sA c64_0
theorem e64_1 : aI c64_1 = some [oo 2 (.assign (.const (.int .i64 0))) 3] := by kernel_rfl
def c64_2 := sB c64_0
def c64_3 := sA c64_2
theorem e64_3 : aI c64_3 = some [oo 3 (.assign (.const (.int .i64 0))) 3] := by kernel_rfl
def c64_4 := sB c64_2
def c64_5 := sA c64_4
def c64_6 := bB c64_5
def c64_7 := bB c64_6
def c64_8 := sA c64_7
def c64_9 := sA c64_8
theorem e64_9 : aI c64_9 = some [oo 4 (.move (.tmp 3)) 3,oo 5 (.move (.tmp 0)) 9,oo 6 (.call ⟨.builtin .len,#[(.tmp 5)],#[9]⟩) 3,oo 7 (.binOp .lss 3 (.tmp 4) (.tmp 6) 3) 4,oo 8 (.move (.tmp 7)) 4,⟨some (8,true),some 9,.move (.tmp 0),9⟩,⟨some (8,true),some 10,.move (.tmp 3),3⟩,⟨some (8,true),some 11,.index 9 (.tmp 9) (.tmp 10),5⟩,⟨some (8,true),some 12,.call ⟨.value (.func 62),(List.toArray [(.tmp 11)]),#[5]⟩,3⟩,⟨some (8,true),some 13,.binOp .eql 3 (.tmp 12) (.const (.int .i64 1)) 3,4⟩,⟨some (8,true),some 14,.move (.tmp 13),4⟩,⟨some (14,false),some 15,.move (.tmp 0),9⟩,⟨some (14,false),some 16,.move (.tmp 3),3⟩,⟨some (14,false),some 17,.index 9 (.tmp 15) (.tmp 16),5⟩,⟨some (14,false),some 18,.call ⟨.value (.func 62),(List.toArray [(.tmp 17)]),#[5]⟩,3⟩,⟨some (14,false),some 19,.binOp .eql 3 (.tmp 18) (.const (.int .i64 2)) 3,4⟩,⟨some (8,true),some 20,.pick (.tmp 14) (.const (.bool true)) (.tmp 19),4⟩,oo 21 (.pick (.tmp 8) (.tmp 20) (.const (.bool false))) 4] := by kernel_rfl
def c64_10 := sB c64_8
def c64_11 := cT c64_10
theorem e64_11 : c64_11 = .skip := by kernel_rfl
def c64_12 := cE c64_10
theorem e64_12 : c64_12 = .exit 0 := by kernel_rfl
theorem e64_10 : c64_10 = .cond (.tmp 21) c64_11 c64_12 := by kernel_rfl
theorem e64_8 : c64_8 = .seq c64_9 c64_10 := by kernel_rfl
def c64_13 := sB c64_7
def c64_14 := bB c64_13
theorem e64_14 : aI c64_14 = some [oo 22 (.move (.tmp 3)) 3,oo 23 (.binOp .add 3 (.tmp 22) (.const (.int .i64 1)) 3) 3,oo 3 (.assign (.tmp 23)) 3] := by kernel_rfl
theorem e64_13 : c64_13 = .block 1 c64_14 := by kernel_rfl
theorem e64_7 : c64_7 = .seq c64_8 c64_13 := by kernel_rfl
theorem e64_6 : c64_6 = .loop c64_7 := by kernel_rfl
theorem e64_5 : c64_5 = .block 0 c64_6 := by kernel_rfl
def c64_15 := sB c64_4
def c64_16 := sA c64_15
theorem e64_16 : aI c64_16 = some [oo 24 (.move (.tmp 3)) 3,oo 2 (.assign (.tmp 24)) 3] := by kernel_rfl
def c64_17 := sB c64_15
theorem e64_17 : c64_17 = .ret := by kernel_rfl
theorem e64_15 : c64_15 = .seq c64_16 c64_17 := by kernel_rfl
theorem e64_4 : c64_4 = .seq c64_5 c64_15 := by kernel_rfl
theorem e64_2 : c64_2 = .seq c64_3 c64_4 := by kernel_rfl
theorem e64_0 : c64_0 = .seq c64_1 c64_2 := by kernel_rfl
def c65_0 := cK Try.f65
def c65_1 := sA c65_0
theorem e65_1 : aI c65_1 = some [oo 2 (.alloc 118) 0,oo 3 (.assign (.const (.bool false))) 4] := by kernel_rfl
def c65_2 := sB c65_0
def c65_3 := sA c65_2
theorem e65_3 : aI c65_3 = some [oo 4 (.move (.tmp 0)) 9,oo 5 (.fieldAddr 118 (.tmp 2) 1) 0,⟨none,none,.store 9 (.tmp 5) (.tmp 4),0⟩] := by kernel_rfl
def c65_4 := sB c65_2
def c65_5 := sA c65_4
def c65_6 := bB c65_5
def c65_7 := sA c65_6
theorem e65_7 : aI c65_7 = some [oo 16 (.move (.tmp 0)) 9,oo 17 (.call ⟨.value (.func 48),(List.toArray [(.tmp 16)]),#[9]⟩) 4,oo 15 (.assign (.tmp 17)) 4] := by kernel_rfl
def c65_8 := sB c65_6
def c65_9 := cT c65_8
theorem e65_9 : aI c65_9 = some [oo 18 (.fieldAddr 118 (.tmp 2) 0) 0,⟨none,none,.store 3 (.tmp 18) (.const (.int .i64 1)),0⟩] := by kernel_rfl
def c65_10 := cE c65_8
def c65_11 := sA c65_10
theorem e65_11 : aI c65_11 = some [oo 20 (.move (.tmp 0)) 9,oo 21 (.call ⟨.builtin .len,#[(.tmp 20)],#[9]⟩) 3,oo 22 (.binOp .eql 3 (.tmp 21) (.const (.int .i64 1)) 3) 4,oo 23 (.move (.tmp 22)) 4,⟨some (23,true),some 24,.move (.tmp 0),9⟩,⟨some (23,true),some 25,.index 9 (.tmp 24) (.const (.int .i64 0)),5⟩,⟨some (23,true),some 26,.call ⟨.value (.func 62),(List.toArray [(.tmp 25)]),#[5]⟩,3⟩,⟨some (23,true),some 27,.binOp .eql 3 (.tmp 26) (.const (.int .i64 3)) 3,4⟩,oo 28 (.pick (.tmp 23) (.tmp 27) (.const (.bool false))) 4,oo 19 (.assign (.tmp 28)) 4] := by kernel_rfl
def c65_12 := sB c65_10
def c65_13 := cT c65_12
theorem e65_13 : aI c65_13 = some [oo 29 (.fieldAddr 118 (.tmp 2) 0) 0,⟨none,none,.store 3 (.tmp 29) (.const (.int .i64 3)),0⟩] := by kernel_rfl
def c65_14 := cE c65_12
def c65_15 := sA c65_14
theorem e65_15 : aI c65_15 = some [oo 6 (.fieldAddr 118 (.tmp 2) 0) 0,⟨none,none,.store 3 (.tmp 6) (.const (.int .i64 2)),0⟩] := by kernel_rfl
def c65_16 := sB c65_14
def c65_17 := sA c65_16
theorem e65_17 : aI c65_17 = some [oo 8 (.move (.tmp 0)) 9,oo 9 (.call ⟨.value (.func 87),(List.toArray [(.tmp 8)]),#[9]⟩) 144,oo 7 (.move (.tmp 9)) 144,oo 10 (.extract (.tmp 7) 0) 2,oo 11 (.extract (.tmp 7) 1) 4,oo 12 (.fieldAddr 118 (.tmp 2) 2) 0,⟨none,none,.store 2 (.tmp 12) (.tmp 10),0⟩,oo 3 (.assign (.tmp 11)) 4] := by kernel_rfl
def c65_18 := sB c65_16
def c65_19 := sA c65_18
theorem e65_19 : aI c65_19 = some [oo 13 (.load 118 (.tmp 2)) 118,oo 14 (.move (.tmp 3)) 4,⟨none,none,.store 118 (.tmp 2) (.tmp 13),0⟩,oo 3 (.assign (.tmp 14)) 4] := by kernel_rfl
def c65_20 := sB c65_18
theorem e65_20 : c65_20 = .ret := by kernel_rfl
theorem e65_18 : c65_18 = .seq c65_19 c65_20 := by kernel_rfl
theorem e65_16 : c65_16 = .seq c65_17 c65_18 := by kernel_rfl
theorem e65_14 : c65_14 = .seq c65_15 c65_16 := by kernel_rfl
theorem e65_12 : c65_12 = .cond (.tmp 19) c65_13 c65_14 := by kernel_rfl
theorem e65_10 : c65_10 = .seq c65_11 c65_12 := by kernel_rfl
theorem e65_8 : c65_8 = .cond (.tmp 15) c65_9 c65_10 := by kernel_rfl
theorem e65_6 : c65_6 = .seq c65_7 c65_8 := by kernel_rfl
theorem e65_5 : c65_5 = .block 0 c65_6 := by kernel_rfl
def c65_21 := sB c65_4
def c65_22 := sA c65_21
theorem e65_22 : aI c65_22 = some [oo 30 (.load 118 (.tmp 2)) 118,⟨none,none,.store 118 (.tmp 2) (.tmp 30),0⟩,oo 3 (.assign (.const (.bool true))) 4] := by kernel_rfl
def c65_23 := sB c65_21
theorem e65_23 : c65_23 = .ret := by kernel_rfl
theorem e65_21 : c65_21 = .seq c65_22 c65_23 := by kernel_rfl
theorem e65_4 : c65_4 = .seq c65_5 c65_21 := by kernel_rfl
theorem e65_2 : c65_2 = .seq c65_3 c65_4 := by kernel_rfl
theorem e65_0 : c65_0 = .seq c65_1 c65_2 := by kernel_rfl
def c66_0 := cK Try.f66
def c66_1 := sA c66_0
theorem e66_1 : aI c66_1 = some [oo 4 (.assign (.const (.int .i64 0))) 3] := by kernel_rfl
def c66_2 := sB c66_0
def c66_3 := sA c66_2
def c66_4 := sA c66_3
theorem e66_4 : aI c66_4 = some [oo 6 (.move (.tmp 0)) 87,oo 7 (.call ⟨.builtin .len,#[(.tmp 6)],#[87]⟩) 3,oo 8 (.move (.const (.int .i64 0))) 3] := by kernel_rfl
def c66_5 := sB c66_3
def c66_6 := bB c66_5
def c66_7 := bB c66_6
def c66_8 := sA c66_7
theorem e66_8 : aI c66_8 = some [oo 9 (.binOp .lss 3 (.tmp 8) (.tmp 7) 3) 0] := by kernel_rfl
def c66_9 := sB c66_7
def c66_10 := sA c66_9
def c66_11 := cT c66_10
theorem e66_11 : c66_11 = .skip := by kernel_rfl
def c66_12 := cE c66_10
theorem e66_12 : c66_12 = .exit 0 := by kernel_rfl
theorem e66_10 : c66_10 = .cond (.tmp 9) c66_11 c66_12 := by kernel_rfl
def c66_13 := sB c66_9
def c66_14 := sA c66_13
def c66_15 := bB c66_14
def c66_16 := sA c66_15
theorem e66_16 : aI c66_16 = some [oo 10 (.move (.tmp 8)) 3,oo 5 (.assign (.tmp 10)) 3] := by kernel_rfl
def c66_17 := sB c66_15
def c66_18 := sA c66_17
theorem e66_18 : aI c66_18 = some [oo 11 (.move (.tmp 1)) 122,oo 12 (.move (.tmp 0)) 87,oo 13 (.move (.tmp 5)) 3,oo 14 (.indexAddr 87 (.tmp 12) (.tmp 13)) 0,oo 15 (.load 118 (.tmp 14)) 118,oo 16 (.call ⟨.value (.tmp 11),(List.toArray [(.tmp 15)]),#[118]⟩) 4] := by kernel_rfl
def c66_19 := sB c66_17
def c66_20 := cT c66_19
def c66_21 := sA c66_20
theorem e66_21 : aI c66_21 = some [oo 17 (.move (.tmp 5)) 3,oo 4 (.assign (.tmp 17)) 3] := by kernel_rfl
def c66_22 := sB c66_20
theorem e66_22 : c66_22 = .ret := by kernel_rfl
theorem e66_20 : c66_20 = .seq c66_21 c66_22 := by kernel_rfl
def c66_23 := cE c66_19
theorem e66_23 : c66_23 = .skip := by kernel_rfl
theorem e66_19 : c66_19 = .cond (.tmp 16) c66_20 c66_23 := by kernel_rfl
theorem e66_17 : c66_17 = .seq c66_18 c66_19 := by kernel_rfl
theorem e66_15 : c66_15 = .seq c66_16 c66_17 := by kernel_rfl
theorem e66_14 : c66_14 = .block 1 c66_15 := by kernel_rfl
def c66_24 := sB c66_13
theorem e66_24 : aI c66_24 = some [oo 18 (.binOp .add 3 (.tmp 8) (.const (.int .i64 1)) 3) 3,oo 8 (.move (.tmp 18)) 3] := by kernel_rfl
theorem e66_13 : c66_13 = .seq c66_14 c66_24 := by kernel_rfl
theorem e66_9 : c66_9 = .seq c66_10 c66_13 := by kernel_rfl
theorem e66_7 : c66_7 = .seq c66_8 c66_9 := by kernel_rfl
theorem e66_6 : c66_6 = .loop c66_7 := by kernel_rfl
theorem e66_5 : c66_5 = .block 0 c66_6 := by kernel_rfl
theorem e66_3 : c66_3 = .seq c66_4 c66_5 := by kernel_rfl
def c66_25 := sB c66_2
def c66_26 := sA c66_25
theorem e66_26 : aI c66_26 = some [oo 4 (.assign (.const (.int .i64 (-1)))) 3] := by kernel_rfl
def c66_27 := sB c66_25
theorem e66_27 : c66_27 = .ret := by kernel_rfl
theorem e66_25 : c66_25 = .seq c66_26 c66_27 := by kernel_rfl
theorem e66_2 : c66_2 = .seq c66_3 c66_25 := by kernel_rfl
theorem e66_0 : c66_0 = .seq c66_1 c66_2 := by kernel_rfl
def c67_0 := cK Try.f67
def c67_1 := sA c67_0
theorem e67_1 : aI c67_1 = some [oo 1 (.box 118 (.tmp 0)) 0,oo 2 (.assign (.const (.bool false))) 4] := by kernel_rfl
def c67_2 := sB c67_0
def c67_3 := sA c67_2
theorem e67_3 : aI c67_3 = some [oo 3 (.fieldAddr 118 (.tmp 1) 0) 0,oo 4 (.load 3 (.tmp 3)) 3,oo 5 (.binOp .eql 3 (.tmp 4) (.const (.int .i64 4)) 3) 4,oo 2 (.assign (.tmp 5)) 4] := by kernel_rfl
def c67_4 := sB c67_2
theorem e67_4 : c67_4 = .ret := by kernel_rfl
theorem e67_2 : c67_2 = .seq c67_3 c67_4 := by kernel_rfl
theorem e67_0 : c67_0 = .seq c67_1 c67_2 := by kernel_rfl
def c68_0 := cK Try.f68
def c68_1 := sA c68_0
theorem e68_1 : aI c68_1 = some [oo 2 (.assign (.const (.slice none 0 0))) 87] := by kernel_rfl
def c68_2 := sB c68_0
def c68_3 := sA c68_2
def c68_4 := sA c68_3
theorem e68_4 : aI c68_4 = some [oo 3 (.move (.tmp 0)) 87,oo 4 (.binOp .eql 87 (.tmp 3) (.const (.slice none 0 0)) 87) 4] := by kernel_rfl
def c68_5 := sB c68_3
def c68_6 := cT c68_5
def c68_7 := sA c68_6
theorem e68_7 : aI c68_7 = some [oo 2 (.assign (.const (.slice none 0 0))) 87] := by kernel_rfl
def c68_8 := sB c68_6
theorem e68_8 : c68_8 = .ret := by kernel_rfl
theorem e68_6 : c68_6 = .seq c68_7 c68_8 := by kernel_rfl
def c68_9 := cE c68_5
theorem e68_9 : c68_9 = .skip := by kernel_rfl
theorem e68_5 : c68_5 = .cond (.tmp 4) c68_6 c68_9 := by kernel_rfl
theorem e68_3 : c68_3 = .seq c68_4 c68_5 := by kernel_rfl
def c68_10 := sB c68_2
def c68_11 := sA c68_10
theorem e68_11 : aI c68_11 = some [oo 5 (.buildSlice 87 0 (List.toArray [])) 87,oo 6 (.move (.tmp 0)) 87,oo 7 (.call ⟨.builtin .append,#[(.tmp 5),(.tmp 6)],#[87,87]⟩) 87,oo 2 (.assign (.tmp 7)) 87] := by kernel_rfl
def c68_12 := sB c68_10
theorem e68_12 : c68_12 = .ret := by kernel_rfl
theorem e68_10 : c68_10 = .seq c68_11 c68_12 := by kernel_rfl
theorem e68_2 : c68_2 = .seq c68_3 c68_10 := by kernel_rfl
theorem e68_0 : c68_0 = .seq c68_1 c68_2 := by kernel_rfl
def c69_0 := cK Try.f69
def c69_1 := sA c69_0
theorem e69_1 : aI c69_1 = some [oo 2 (.alloc 118) 0] := by kernel_rfl
def c69_2 := sB c69_0
def c69_3 := sA c69_2
def c69_4 := sA c69_3
theorem e69_4 : aI c69_4 = some [oo 3 (.move (.tmp 0)) 146,oo 4 (.nilCheck (.tmp 3)) 0,oo 5 (.fieldAddr 94 (.tmp 4) 0) 0,oo 6 (.load 87 (.tmp 5)) 87,oo 7 (.call ⟨.builtin .len,#[(.tmp 6)],#[87]⟩) 3,oo 8 (.binOp .gtr 3 (.tmp 7) (.const (.int .i64 0)) 3) 4] := by kernel_rfl
def c69_5 := sB c69_3
def c69_6 := cT c69_5
theorem e69_6 : aI c69_6 = some [oo 9 (.move (.tmp 0)) 146,oo 10 (.nilCheck (.tmp 9)) 0,oo 11 (.fieldAddr 94 (.tmp 10) 0) 0,oo 12 (.load 87 (.tmp 11)) 87,oo 13 (.indexAddr 87 (.tmp 12) (.const (.int .i64 0))) 0,oo 14 (.load 118 (.tmp 13)) 118,⟨none,none,.store 118 (.tmp 2) (.tmp 14),0⟩] := by kernel_rfl
def c69_7 := cE c69_5
theorem e69_7 : c69_7 = .skip := by kernel_rfl
theorem e69_5 : c69_5 = .cond (.tmp 8) c69_6 c69_7 := by kernel_rfl
theorem e69_3 : c69_3 = .seq c69_4 c69_5 := by kernel_rfl
def c69_8 := sB c69_2
def c69_9 := sA c69_8
theorem e69_9 : aI c69_9 = some [oo 15 (.load 118 (.tmp 2)) 118,⟨none,none,.store 118 (.tmp 2) (.tmp 15),0⟩] := by kernel_rfl
def c69_10 := sB c69_8
theorem e69_10 : c69_10 = .ret := by kernel_rfl
theorem e69_8 : c69_8 = .seq c69_9 c69_10 := by kernel_rfl
theorem e69_2 : c69_2 = .seq c69_3 c69_8 := by kernel_rfl
theorem e69_0 : c69_0 = .seq c69_1 c69_2 := by kernel_rfl
def c70_0 := cK Try.f70
def c70_1 := sA c70_0
theorem e70_1 : aI c70_1 = some [oo 4 (.move (.tmp 0)) 92,oo 5 (.move (.tmp 1)) 9,oo 6 (.call ⟨.value (.func 88),(List.toArray [(.tmp 4),(.tmp 5)]),#[92,9]⟩) 4,oo 7 (.unOp .not 4 (.tmp 6)) 4] := by kernel_rfl
def c70_2 := sB c70_0
def c70_3 := cT c70_2
theorem e70_3 : aI c70_3 = some [oo 8 (.move (.tmp 0)) 92,oo 9 (.nilCheck (.tmp 8)) 0,oo 10 (.fieldAddr 96 (.tmp 9) 1) 0,⟨none,none,.store 4 (.tmp 10) (.const (.bool true)),0⟩] := by kernel_rfl
def c70_4 := cE c70_2
theorem e70_4 : c70_4 = .skip := by kernel_rfl
theorem e70_2 : c70_2 = .cond (.tmp 7) c70_3 c70_4 := by kernel_rfl
theorem e70_0 : c70_0 = .seq c70_1 c70_2 := by kernel_rfl
def c71_0 := cK Try.f71
def c71_1 := sA c71_0
theorem e71_1 : aI c71_1 = some [oo 2 (.assign (.const (.string ByteArray.empty))) 9] := by kernel_rfl
def c71_2 := sB c71_0
def c71_3 := sA c71_2
theorem e71_3 : aI c71_3 = some [oo 4 (.move (.tmp 0)) 92,oo 5 (.call ⟨.value (.func 74),(List.toArray [(.tmp 4),(.const (.int .i64 1))]),#[92,3]⟩) 118,oo 6 (.field 118 (.tmp 5) 1) 9,oo 3 (.assign (.tmp 6)) 9] := by kernel_rfl
def c71_4 := sB c71_2
def c71_5 := sA c71_4
def c71_6 := sA c71_5
theorem e71_6 : aI c71_6 = some [oo 7 (.move (.tmp 3)) 9,oo 8 (.call ⟨.value (.func 46),(List.toArray [(.tmp 7)]),#[9]⟩) 4,oo 9 (.unOp .not 4 (.tmp 8)) 4] := by kernel_rfl
def c71_7 := sB c71_5
def c71_8 := cT c71_7
theorem e71_8 : aI c71_8 = some [oo 10 (.move (.tmp 0)) 92,oo 11 (.nilCheck (.tmp 10)) 0,oo 12 (.fieldAddr 96 (.tmp 11) 1) 0,⟨none,none,.store 4 (.tmp 12) (.const (.bool true)),0⟩] := by kernel_rfl
def c71_9 := cE c71_7
theorem e71_9 : c71_9 = .skip := by kernel_rfl
theorem e71_7 : c71_7 = .cond (.tmp 9) c71_8 c71_9 := by kernel_rfl
theorem e71_5 : c71_5 = .seq c71_6 c71_7 := by kernel_rfl
def c71_10 := sB c71_4
def c71_11 := sA c71_10
theorem e71_11 : aI c71_11 = some [oo 13 (.move (.tmp 3)) 9,oo 2 (.assign (.tmp 13)) 9] := by kernel_rfl
def c71_12 := sB c71_10
theorem e71_12 : c71_12 = .ret := by kernel_rfl
theorem e71_10 : c71_10 = .seq c71_11 c71_12 := by kernel_rfl
theorem e71_4 : c71_4 = .seq c71_5 c71_10 := by kernel_rfl
theorem e71_2 : c71_2 = .seq c71_3 c71_4 := by kernel_rfl
theorem e71_0 : c71_0 = .seq c71_1 c71_2 := by kernel_rfl
def c72_0 := cK Try.f72
def c72_1 := sA c72_0
theorem e72_1 : aI c72_1 = some [oo 4 (.assign (.const (.slice none 0 0))) 43] := by kernel_rfl
def c72_2 := sB c72_0
def c72_3 := sA c72_2
theorem e72_3 : aI c72_3 = some [oo 6 (.move (.tmp 0)) 92,oo 7 (.call ⟨.value (.func 70),(List.toArray [(.tmp 6),(.const (.string ⟨#[91]⟩))]),#[92,9]⟩) 0] := by kernel_rfl
def c72_4 := sB c72_2
def c72_5 := sA c72_4
def c72_6 := sA c72_5
theorem e72_6 : aI c72_6 = some [oo 8 (.move (.tmp 0)) 92,oo 9 (.call ⟨.value (.func 88),(List.toArray [(.tmp 8),(.const (.string ⟨#[93]⟩))]),#[92,9]⟩) 4] := by kernel_rfl
def c72_7 := sB c72_5
def c72_8 := cT c72_7
def c72_9 := sA c72_8
theorem e72_9 : aI c72_9 = some [oo 4 (.assign (.const (.slice none 0 0))) 43] := by kernel_rfl
def c72_10 := sB c72_8
theorem e72_10 : c72_10 = .ret := by kernel_rfl
theorem e72_8 : c72_8 = .seq c72_9 c72_10 := by kernel_rfl
def c72_11 := cE c72_7
theorem e72_11 : c72_11 = .skip := by kernel_rfl
theorem e72_7 : c72_7 = .cond (.tmp 9) c72_8 c72_11 := by kernel_rfl
theorem e72_5 : c72_5 = .seq c72_6 c72_7 := by kernel_rfl
def c72_12 := sB c72_4
def c72_13 := sA c72_12
def c72_14 := sA c72_13
theorem e72_14 : aI c72_14 = some [oo 5 (.assign (.const (.bool true))) 4] := by kernel_rfl
def c72_15 := sB c72_13
def c72_16 := bB c72_15
def c72_17 := bB c72_16
def c72_18 := sA c72_17
def c72_19 := sA c72_18
theorem e72_19 : aI c72_19 = some [oo 10 (.move (.tmp 5)) 4,oo 11 (.move (.tmp 10)) 4,⟨some (11,true),some 12,.move (.tmp 0),92⟩,⟨some (11,true),some 13,.nilCheck (.tmp 12),0⟩,⟨some (11,true),some 14,.fieldAddr 96 (.tmp 13) 1,0⟩,⟨some (11,true),some 15,.load 4 (.tmp 14),4⟩,⟨some (11,true),some 16,.unOp .not 4 (.tmp 15),4⟩,oo 17 (.pick (.tmp 11) (.tmp 16) (.const (.bool false))) 4] := by kernel_rfl
def c72_20 := sB c72_18
def c72_21 := cT c72_20
theorem e72_21 : c72_21 = .skip := by kernel_rfl
def c72_22 := cE c72_20
theorem e72_22 : c72_22 = .exit 0 := by kernel_rfl
theorem e72_20 : c72_20 = .cond (.tmp 17) c72_21 c72_22 := by kernel_rfl
theorem e72_18 : c72_18 = .seq c72_19 c72_20 := by kernel_rfl
def c72_23 := sB c72_17
def c72_24 := sA c72_23
def c72_25 := bB c72_24
theorem e72_25 : aI c72_25 = some [oo 20 (.move (.tmp 4)) 43,oo 21 (.move (.tmp 1)) 128,oo 22 (.call ⟨.value (.tmp 21),(List.toArray []),#[]⟩) 3,oo 23 (.buildSlice 43 1 (List.toArray [(0,(.tmp 22))])) 43,oo 24 (.call ⟨.builtin .append,#[(.tmp 20),(.tmp 23)],#[43,43]⟩) 43,oo 4 (.assign (.tmp 24)) 43] := by kernel_rfl
theorem e72_24 : c72_24 = .block 1 c72_25 := by kernel_rfl
def c72_26 := sB c72_23
theorem e72_26 : aI c72_26 = some [oo 18 (.move (.tmp 0)) 92,oo 19 (.call ⟨.value (.func 88),(List.toArray [(.tmp 18),(.const (.string ⟨#[44]⟩))]),#[92,9]⟩) 4,oo 5 (.assign (.tmp 19)) 4] := by kernel_rfl
theorem e72_23 : c72_23 = .seq c72_24 c72_26 := by kernel_rfl
theorem e72_17 : c72_17 = .seq c72_18 c72_23 := by kernel_rfl
theorem e72_16 : c72_16 = .loop c72_17 := by kernel_rfl
theorem e72_15 : c72_15 = .block 0 c72_16 := by kernel_rfl
theorem e72_13 : c72_13 = .seq c72_14 c72_15 := by kernel_rfl
def c72_27 := sB c72_12
def c72_28 := sA c72_27
theorem e72_28 : aI c72_28 = some [oo 25 (.move (.tmp 0)) 92,oo 26 (.call ⟨.value (.func 70),(List.toArray [(.tmp 25),(.const (.string ⟨#[93]⟩))]),#[92,9]⟩) 0] := by kernel_rfl
def c72_29 := sB c72_27
def c72_30 := sA c72_29
theorem e72_30 : aI c72_30 = some [oo 27 (.move (.tmp 4)) 43,oo 4 (.assign (.tmp 27)) 43] := by kernel_rfl
def c72_31 := sB c72_29
theorem e72_31 : c72_31 = .ret := by kernel_rfl
theorem e72_29 : c72_29 = .seq c72_30 c72_31 := by kernel_rfl
theorem e72_27 : c72_27 = .seq c72_28 c72_29 := by kernel_rfl
theorem e72_12 : c72_12 = .seq c72_13 c72_27 := by kernel_rfl
theorem e72_4 : c72_4 = .seq c72_5 c72_12 := by kernel_rfl
theorem e72_2 : c72_2 = .seq c72_3 c72_4 := by kernel_rfl
theorem e72_0 : c72_0 = .seq c72_1 c72_2 := by kernel_rfl
def c73_0 := cK Try.f73
def c73_1 := sA c73_0
theorem e73_1 : aI c73_1 = some [oo 2 (.assign (.const (.int .i64 0))) 3] := by kernel_rfl
def c73_2 := sB c73_0
def c73_3 := sA c73_2
theorem e73_3 : aI c73_3 = some [oo 3 (.move (.tmp 0)) 92,oo 4 (.call ⟨.value (.func 74),(List.toArray [(.tmp 3),(.const (.int .i64 2))]),#[92,3]⟩) 118,oo 5 (.field 118 (.tmp 4) 2) 2,oo 2 (.assign (.tmp 5)) 3] := by kernel_rfl
def c73_4 := sB c73_2
theorem e73_4 : c73_4 = .ret := by kernel_rfl
theorem e73_2 : c73_2 = .seq c73_3 c73_4 := by kernel_rfl
theorem e73_0 : c73_0 = .seq c73_1 c73_2 := by kernel_rfl
def c74_0 := cK Try.f74
def c74_1 := sA c74_0
theorem e74_1 : aI c74_1 = some [oo 4 (.alloc 118) 0] := by kernel_rfl
def c74_2 := sB c74_0
def c74_3 := sA c74_2
theorem e74_3 : aI c74_3 = some [oo 6 (.move (.tmp 0)) 92,oo 7 (.nilCheck (.tmp 6)) 0,oo 8 (.fieldAddr 96 (.tmp 7) 0) 0,oo 9 (.call ⟨.value (.func 69),(List.toArray [(.tmp 8)]),#[94]⟩) 118,oo 5 (.alloc 118) 0,⟨none,none,.store 118 (.tmp 5) (.tmp 9),0⟩] := by kernel_rfl
def c74_4 := sB c74_2
def c74_5 := sA c74_4
def c74_6 := sA c74_5
theorem e74_6 : aI c74_6 = some [oo 10 (.move (.tmp 0)) 92,oo 11 (.nilCheck (.tmp 10)) 0,oo 12 (.fieldAddr 96 (.tmp 11) 1) 0,oo 13 (.load 4 (.tmp 12)) 4,oo 14 (.move (.tmp 13)) 4,⟨some (14,false),some 15,.fieldAddr 118 (.tmp 5) 0,0⟩,⟨some (14,false),some 16,.load 3 (.tmp 15),3⟩,⟨some (14,false),some 17,.move (.tmp 1),3⟩,⟨some (14,false),some 18,.binOp .neq 3 (.tmp 16) (.tmp 17) 3,4⟩,oo 19 (.pick (.tmp 14) (.const (.bool true)) (.tmp 18)) 4] := by kernel_rfl
def c74_7 := sB c74_5
def c74_8 := cT c74_7
def c74_9 := sA c74_8
theorem e74_9 : aI c74_9 = some [oo 20 (.move (.tmp 0)) 92,oo 21 (.nilCheck (.tmp 20)) 0,oo 22 (.fieldAddr 96 (.tmp 21) 1) 0,⟨none,none,.store 4 (.tmp 22) (.const (.bool true)),0⟩] := by kernel_rfl
def c74_10 := sB c74_8
def c74_11 := sA c74_10
theorem e74_11 : aI c74_11 = some [oo 23 (.build 118 (List.toArray [])) 118,⟨none,none,.store 118 (.tmp 4) (.tmp 23),0⟩] := by kernel_rfl
def c74_12 := sB c74_10
theorem e74_12 : c74_12 = .ret := by kernel_rfl
theorem e74_10 : c74_10 = .seq c74_11 c74_12 := by kernel_rfl
theorem e74_8 : c74_8 = .seq c74_9 c74_10 := by kernel_rfl
def c74_13 := cE c74_7
theorem e74_13 : c74_13 = .skip := by kernel_rfl
theorem e74_7 : c74_7 = .cond (.tmp 19) c74_8 c74_13 := by kernel_rfl
theorem e74_5 : c74_5 = .seq c74_6 c74_7 := by kernel_rfl
def c74_14 := sB c74_4
def c74_15 := sA c74_14
theorem e74_15 : aI c74_15 = some [oo 24 (.move (.tmp 0)) 92,oo 25 (.move (.tmp 0)) 92,oo 26 (.nilCheck (.tmp 25)) 0,oo 27 (.fieldAddr 96 (.tmp 26) 0) 0,oo 28 (.fieldAddr 94 (.tmp 27) 0) 0,oo 29 (.load 87 (.tmp 28)) 87,oo 30 (.slice 87 (.tmp 29) (some (.const (.int .i64 1))) none none) 87,oo 31 (.nilCheck (.tmp 24)) 0,oo 32 (.fieldAddr 96 (.tmp 31) 0) 0,oo 33 (.fieldAddr 94 (.tmp 32) 0) 0,⟨none,none,.store 87 (.tmp 33) (.tmp 30),0⟩] := by kernel_rfl
def c74_16 := sB c74_14
def c74_17 := sA c74_16
theorem e74_17 : aI c74_17 = some [oo 34 (.load 118 (.tmp 5)) 118,⟨none,none,.store 118 (.tmp 4) (.tmp 34),0⟩] := by kernel_rfl
def c74_18 := sB c74_16
theorem e74_18 : c74_18 = .ret := by kernel_rfl
theorem e74_16 : c74_16 = .seq c74_17 c74_18 := by kernel_rfl
theorem e74_14 : c74_14 = .seq c74_15 c74_16 := by kernel_rfl
theorem e74_4 : c74_4 = .seq c74_5 c74_14 := by kernel_rfl
theorem e74_2 : c74_2 = .seq c74_3 c74_4 := by kernel_rfl
theorem e74_0 : c74_0 = .seq c74_1 c74_2 := by kernel_rfl
def c75_0 := cK Try.f75
def c75_1 := sA c75_0
theorem e75_1 : aI c75_1 = some [oo 4 (.assign (.const (.slice none 0 0))) 28] := by kernel_rfl
def c75_2 := sB c75_0
def c75_3 := sA c75_2
theorem e75_3 : aI c75_3 = some [oo 6 (.move (.tmp 0)) 92,oo 7 (.call ⟨.value (.func 70),(List.toArray [(.tmp 6),(.const (.string ⟨#[91]⟩))]),#[92,9]⟩) 0] := by kernel_rfl
def c75_4 := sB c75_2
def c75_5 := sA c75_4
def c75_6 := sA c75_5
theorem e75_6 : aI c75_6 = some [oo 8 (.move (.tmp 0)) 92,oo 9 (.call ⟨.value (.func 88),(List.toArray [(.tmp 8),(.const (.string ⟨#[93]⟩))]),#[92,9]⟩) 4] := by kernel_rfl
def c75_7 := sB c75_5
def c75_8 := cT c75_7
def c75_9 := sA c75_8
theorem e75_9 : aI c75_9 = some [oo 4 (.assign (.const (.slice none 0 0))) 28] := by kernel_rfl
def c75_10 := sB c75_8
theorem e75_10 : c75_10 = .ret := by kernel_rfl
theorem e75_8 : c75_8 = .seq c75_9 c75_10 := by kernel_rfl
def c75_11 := cE c75_7
theorem e75_11 : c75_11 = .skip := by kernel_rfl
theorem e75_7 : c75_7 = .cond (.tmp 9) c75_8 c75_11 := by kernel_rfl
theorem e75_5 : c75_5 = .seq c75_6 c75_7 := by kernel_rfl
def c75_12 := sB c75_4
def c75_13 := sA c75_12
def c75_14 := sA c75_13
theorem e75_14 : aI c75_14 = some [oo 5 (.assign (.const (.bool true))) 4] := by kernel_rfl
def c75_15 := sB c75_13
def c75_16 := bB c75_15
def c75_17 := bB c75_16
def c75_18 := sA c75_17
def c75_19 := sA c75_18
theorem e75_19 : aI c75_19 = some [oo 10 (.move (.tmp 5)) 4,oo 11 (.move (.tmp 10)) 4,⟨some (11,true),some 12,.move (.tmp 0),92⟩,⟨some (11,true),some 13,.nilCheck (.tmp 12),0⟩,⟨some (11,true),some 14,.fieldAddr 96 (.tmp 13) 1,0⟩,⟨some (11,true),some 15,.load 4 (.tmp 14),4⟩,⟨some (11,true),some 16,.unOp .not 4 (.tmp 15),4⟩,oo 17 (.pick (.tmp 11) (.tmp 16) (.const (.bool false))) 4] := by kernel_rfl
def c75_20 := sB c75_18
def c75_21 := cT c75_20
theorem e75_21 : c75_21 = .skip := by kernel_rfl
def c75_22 := cE c75_20
theorem e75_22 : c75_22 = .exit 0 := by kernel_rfl
theorem e75_20 : c75_20 = .cond (.tmp 17) c75_21 c75_22 := by kernel_rfl
theorem e75_18 : c75_18 = .seq c75_19 c75_20 := by kernel_rfl
def c75_23 := sB c75_17
def c75_24 := sA c75_23
def c75_25 := bB c75_24
theorem e75_25 : aI c75_25 = some [oo 20 (.move (.tmp 4)) 28,oo 21 (.move (.tmp 1)) 126,oo 22 (.call ⟨.value (.tmp 21),(List.toArray []),#[]⟩) 9,oo 23 (.buildSlice 28 1 (List.toArray [(0,(.tmp 22))])) 28,oo 24 (.call ⟨.builtin .append,#[(.tmp 20),(.tmp 23)],#[28,28]⟩) 28,oo 4 (.assign (.tmp 24)) 28] := by kernel_rfl
theorem e75_24 : c75_24 = .block 1 c75_25 := by kernel_rfl
def c75_26 := sB c75_23
theorem e75_26 : aI c75_26 = some [oo 18 (.move (.tmp 0)) 92,oo 19 (.call ⟨.value (.func 88),(List.toArray [(.tmp 18),(.const (.string ⟨#[44]⟩))]),#[92,9]⟩) 4,oo 5 (.assign (.tmp 19)) 4] := by kernel_rfl
theorem e75_23 : c75_23 = .seq c75_24 c75_26 := by kernel_rfl
theorem e75_17 : c75_17 = .seq c75_18 c75_23 := by kernel_rfl
theorem e75_16 : c75_16 = .loop c75_17 := by kernel_rfl
theorem e75_15 : c75_15 = .block 0 c75_16 := by kernel_rfl
theorem e75_13 : c75_13 = .seq c75_14 c75_15 := by kernel_rfl
def c75_27 := sB c75_12
def c75_28 := sA c75_27
theorem e75_28 : aI c75_28 = some [oo 25 (.move (.tmp 0)) 92,oo 26 (.call ⟨.value (.func 70),(List.toArray [(.tmp 25),(.const (.string ⟨#[93]⟩))]),#[92,9]⟩) 0] := by kernel_rfl
def c75_29 := sB c75_27
def c75_30 := sA c75_29
theorem e75_30 : aI c75_30 = some [oo 27 (.move (.tmp 4)) 28,oo 4 (.assign (.tmp 27)) 28] := by kernel_rfl
def c75_31 := sB c75_29
theorem e75_31 : c75_31 = .ret := by kernel_rfl
theorem e75_29 : c75_29 = .seq c75_30 c75_31 := by kernel_rfl
theorem e75_27 : c75_27 = .seq c75_28 c75_29 := by kernel_rfl
theorem e75_12 : c75_12 = .seq c75_13 c75_27 := by kernel_rfl
theorem e75_4 : c75_4 = .seq c75_5 c75_12 := by kernel_rfl
theorem e75_2 : c75_2 = .seq c75_3 c75_4 := by kernel_rfl
theorem e75_0 : c75_0 = .seq c75_1 c75_2 := by kernel_rfl
def c76_0 := cK Try.f76
def c76_1 := sA c76_0
theorem e76_1 : aI c76_1 = some [oo 2 (.alloc 31) 0] := by kernel_rfl
def c76_2 := sB c76_0
def c76_3 := sA c76_2
theorem e76_3 : aI c76_3 = some [oo 3 (.move (.tmp 0)) 92,oo 4 (.move (.tmp 0)) 92,oo 5 (.makeFunc (.func 90) (List.toArray [(.tmp 4)]) (List.toArray [])) 131,oo 6 (.makeMap 148 none) 148,⟨none,none,.insert 148 (.tmp 6) (.const (.string ⟨#[43]⟩)) (.const (.int .i64 3)),0⟩,⟨none,none,.insert 148 (.tmp 6) (.const (.string ⟨#[45]⟩)) (.const (.int .i64 4)),0⟩,oo 7 (.move (.tmp 6)) 148,oo 8 (.call ⟨.value (.func 89),(List.toArray [(.tmp 3),(.tmp 5),(.tmp 7)]),#[92,131,148]⟩) 31,⟨none,none,.store 31 (.tmp 2) (.tmp 8),0⟩] := by kernel_rfl
def c76_4 := sB c76_2
theorem e76_4 : c76_4 = .ret := by kernel_rfl
theorem e76_2 : c76_2 = .seq c76_3 c76_4 := by kernel_rfl
theorem e76_0 : c76_0 = .seq c76_1 c76_2 := by kernel_rfl
def c77_0 := cK Try.f77
def c77_1 := sA c77_0
theorem e77_1 : aI c77_1 = some [oo 4 (.assign (.const (.bool false))) 4] := by kernel_rfl
def c77_2 := sB c77_0
def c77_3 := sA c77_2
theorem e77_3 : aI c77_3 = some [oo 5 (.move (.tmp 0)) 43,oo 6 (.move (.tmp 1)) 133,oo 7 (.call ⟨.value (.func 91),(List.toArray [(.tmp 5),(.tmp 6)]),#[43,133]⟩) 3,oo 8 (.binOp .geq 3 (.tmp 7) (.const (.int .i64 0)) 3) 4,oo 4 (.assign (.tmp 8)) 4] := by kernel_rfl
def c77_4 := sB c77_2
theorem e77_4 : c77_4 = .ret := by kernel_rfl
theorem e77_2 : c77_2 = .seq c77_3 c77_4 := by kernel_rfl
theorem e77_0 : c77_0 = .seq c77_1 c77_2 := by kernel_rfl
def c78_0 := cK Try.f78
def c78_1 := sA c78_0
theorem e78_1 : aI c78_1 = some [oo 2 (.assign (.const (.bool false))) 4] := by kernel_rfl
def c78_2 := sB c78_0
def c78_3 := sA c78_2
theorem e78_3 : aI c78_3 = some [oo 3 (.move (.tmp 0)) 3,oo 4 (.binOp .lss 3 (.tmp 3) (.const (.int .i64 0)) 3) 4,oo 5 (.move (.tmp 4)) 4,⟨some (5,false),some 6,.move (.tmp 0),3⟩,⟨some (5,false),some 7,.binOp .geq 3 (.tmp 6) (.const (.int .i64 1000000000000000000)) 3,4⟩,oo 8 (.pick (.tmp 5) (.const (.bool true)) (.tmp 7)) 4,oo 2 (.assign (.tmp 8)) 4] := by kernel_rfl
def c78_4 := sB c78_2
theorem e78_4 : c78_4 = .ret := by kernel_rfl
theorem e78_2 : c78_2 = .seq c78_3 c78_4 := by kernel_rfl
theorem e78_0 : c78_0 = .seq c78_1 c78_2 := by kernel_rfl
def c79_0 := cK Try.f79
def c79_1 := sA c79_0
theorem e79_1 : aI c79_1 = some [oo 4 (.assign (.const (.bool false))) 4] := by kernel_rfl
def c79_2 := sB c79_0
def c79_3 := sA c79_2
theorem e79_3 : aI c79_3 = some [oo 5 (.move (.tmp 0)) 28,oo 6 (.move (.tmp 1)) 97,oo 7 (.call ⟨.value (.func 92),(List.toArray [(.tmp 5),(.tmp 6)]),#[28,97]⟩) 3,oo 8 (.binOp .geq 3 (.tmp 7) (.const (.int .i64 0)) 3) 4,oo 4 (.assign (.tmp 8)) 4] := by kernel_rfl
def c79_4 := sB c79_2
theorem e79_4 : c79_4 = .ret := by kernel_rfl
theorem e79_2 : c79_2 = .seq c79_3 c79_4 := by kernel_rfl
theorem e79_0 : c79_0 = .seq c79_1 c79_2 := by kernel_rfl
def c80_0 := cK Try.f80
def c80_1 := sA c80_0
theorem e80_1 : aI c80_1 = some [oo 2 (.assign (.const (.bool false))) 4] := by kernel_rfl
def c80_2 := sB c80_0
def c80_3 := sA c80_2
theorem e80_3 : aI c80_3 = some [oo 3 (.move (.tmp 0)) 9,oo 4 (.call ⟨.value (.func 46),(List.toArray [(.tmp 3)]),#[9]⟩) 4,oo 5 (.unOp .not 4 (.tmp 4)) 4,oo 2 (.assign (.tmp 5)) 4] := by kernel_rfl
def c80_4 := sB c80_2
theorem e80_4 : c80_4 = .ret := by kernel_rfl
theorem e80_2 : c80_2 = .seq c80_3 c80_4 := by kernel_rfl
theorem e80_0 : c80_0 = .seq c80_1 c80_2 := by kernel_rfl
def c81_0 := cK Try.f81
def c81_1 := sA c81_0
theorem e81_1 : aI c81_1 = some [oo 4 (.assign (.const (.int .i64 0))) 3] := by kernel_rfl
def c81_2 := sB c81_0
def c81_3 := sA c81_2
def c81_4 := sA c81_3
theorem e81_4 : aI c81_4 = some [oo 6 (.move (.tmp 0)) 29,oo 7 (.call ⟨.builtin .len,#[(.tmp 6)],#[29]⟩) 3,oo 8 (.move (.const (.int .i64 0))) 3] := by kernel_rfl
def c81_5 := sB c81_3
def c81_6 := bB c81_5
def c81_7 := bB c81_6
def c81_8 := sA c81_7
theorem e81_8 : aI c81_8 = some [oo 9 (.binOp .lss 3 (.tmp 8) (.tmp 7) 3) 0] := by kernel_rfl
def c81_9 := sB c81_7
def c81_10 := sA c81_9
def c81_11 := cT c81_10
theorem e81_11 : c81_11 = .skip := by kernel_rfl
def c81_12 := cE c81_10
theorem e81_12 : c81_12 = .exit 0 := by kernel_rfl
theorem e81_10 : c81_10 = .cond (.tmp 9) c81_11 c81_12 := by kernel_rfl
def c81_13 := sB c81_9
def c81_14 := sA c81_13
def c81_15 := bB c81_14
def c81_16 := sA c81_15
theorem e81_16 : aI c81_16 = some [oo 10 (.move (.tmp 8)) 3,oo 5 (.assign (.tmp 10)) 3] := by kernel_rfl
def c81_17 := sB c81_15
def c81_18 := sA c81_17
theorem e81_18 : aI c81_18 = some [oo 11 (.move (.tmp 1)) 59,oo 12 (.move (.tmp 0)) 29,oo 13 (.move (.tmp 5)) 3,oo 14 (.indexAddr 29 (.tmp 12) (.tmp 13)) 0,oo 15 (.load 31 (.tmp 14)) 31,oo 16 (.call ⟨.value (.tmp 11),(List.toArray [(.tmp 15)]),#[31]⟩) 4] := by kernel_rfl
def c81_19 := sB c81_17
def c81_20 := cT c81_19
def c81_21 := sA c81_20
theorem e81_21 : aI c81_21 = some [oo 17 (.move (.tmp 5)) 3,oo 4 (.assign (.tmp 17)) 3] := by kernel_rfl
def c81_22 := sB c81_20
theorem e81_22 : c81_22 = .ret := by kernel_rfl
theorem e81_20 : c81_20 = .seq c81_21 c81_22 := by kernel_rfl
def c81_23 := cE c81_19
theorem e81_23 : c81_23 = .skip := by kernel_rfl
theorem e81_19 : c81_19 = .cond (.tmp 16) c81_20 c81_23 := by kernel_rfl
theorem e81_17 : c81_17 = .seq c81_18 c81_19 := by kernel_rfl
theorem e81_15 : c81_15 = .seq c81_16 c81_17 := by kernel_rfl
theorem e81_14 : c81_14 = .block 1 c81_15 := by kernel_rfl
def c81_24 := sB c81_13
theorem e81_24 : aI c81_24 = some [oo 18 (.binOp .add 3 (.tmp 8) (.const (.int .i64 1)) 3) 3,oo 8 (.move (.tmp 18)) 3] := by kernel_rfl
theorem e81_13 : c81_13 = .seq c81_14 c81_24 := by kernel_rfl
theorem e81_9 : c81_9 = .seq c81_10 c81_13 := by kernel_rfl
theorem e81_7 : c81_7 = .seq c81_8 c81_9 := by kernel_rfl
theorem e81_6 : c81_6 = .loop c81_7 := by kernel_rfl
theorem e81_5 : c81_5 = .block 0 c81_6 := by kernel_rfl
theorem e81_3 : c81_3 = .seq c81_4 c81_5 := by kernel_rfl
def c81_25 := sB c81_2
def c81_26 := sA c81_25
theorem e81_26 : aI c81_26 = some [oo 4 (.assign (.const (.int .i64 (-1)))) 3] := by kernel_rfl
def c81_27 := sB c81_25
theorem e81_27 : c81_27 = .ret := by kernel_rfl
theorem e81_25 : c81_25 = .seq c81_26 c81_27 := by kernel_rfl
theorem e81_2 : c81_2 = .seq c81_3 c81_25 := by kernel_rfl
theorem e81_0 : c81_0 = .seq c81_1 c81_2 := by kernel_rfl
def c82_0 := cK Try.f82
def c82_1 := sA c82_0
theorem e82_1 : aI c82_1 = some [oo 2 (.assign (.const (.slice none 0 0))) 78] := by kernel_rfl
def c82_2 := sB c82_0
def c82_3 := sA c82_2
def c82_4 := sA c82_3
theorem e82_4 : aI c82_4 = some [oo 3 (.assign (.const (.int .i64 0))) 3] := by kernel_rfl
def c82_5 := sB c82_3
def c82_6 := bB c82_5
def c82_7 := bB c82_6
def c82_8 := sA c82_7
def c82_9 := sA c82_8
theorem e82_9 : aI c82_9 = some [oo 4 (.move (.tmp 3)) 3,oo 5 (.binOp .add 3 (.tmp 4) (.const (.int .i64 1)) 3) 3,oo 6 (.move (.tmp 0)) 43,oo 7 (.call ⟨.builtin .len,#[(.tmp 6)],#[43]⟩) 3,oo 8 (.binOp .lss 3 (.tmp 5) (.tmp 7) 3) 4] := by kernel_rfl
def c82_10 := sB c82_8
def c82_11 := cT c82_10
theorem e82_11 : c82_11 = .skip := by kernel_rfl
def c82_12 := cE c82_10
theorem e82_12 : c82_12 = .exit 0 := by kernel_rfl
theorem e82_10 : c82_10 = .cond (.tmp 8) c82_11 c82_12 := by kernel_rfl
theorem e82_8 : c82_8 = .seq c82_9 c82_10 := by kernel_rfl
def c82_13 := sB c82_7
def c82_14 := sA c82_13
def c82_15 := bB c82_14
def o82_15 : List COp := [oo 11 (.move (.tmp 2)) 78,oo 12 (.move (.tmp 0)) 43,oo 13 (.move (.tmp 3)) 3,oo 14 (.indexAddr 43 (.tmp 12) (.tmp 13)) 0,oo 15 (.load 3 (.tmp 14)) 3,oo 16 (.move (.tmp 0)) 43,oo 17 (.move (.tmp 3)) 3,oo 18 (.binOp .add 3 (.tmp 17) (.const (.int .i64 1)) 3) 3,oo 19 (.indexAddr 43 (.tmp 16) (.tmp 18)) 0,oo 20 (.load 3 (.tmp 19)) 3,oo 21 (.build 137 (List.toArray [(0,(.tmp 15)),(1,(.tmp 20))])) 137,oo 22 (.buildSlice 78 1 (List.toArray [(0,(.tmp 21))])) 78,oo 23 (.call ⟨.builtin .append,#[(.tmp 11),(.tmp 22)],#[78,78]⟩) 78,oo 2 (.assign (.tmp 23)) 78]
def d82_15 : List (List Nat) := [[],[],[],[1,2],[3],[],[],[6],[5,7],[8],[4,9],[10],[0,11],[12,12,0,1,2,3,4,5,6,7,8,9,10,11,12]]
theorem e82_15 : rDrw c82_15 = some (o82_15,d82_15) := by kernel_rfl
theorem k82_15 : chkCs o82_15 d82_15 X82.fn.ntmps [11,12,13] [[(0,false),(1,false),(2,false),(3,false),(4,false),(5,false),(6,false),(7,false),(8,false),(9,false),(10,false),(11,true),(12,true),(13,true)]] = true := by kernel_rfl
theorem m82_15 : chkM [0,1,2,3,4,5,6,7,8,9,10,11,12,13] [0,1,2,3,4,5,6,7,8,9,10,11,12,13] c82_15 = true := by kernel_rfl
theorem e82_14 : c82_14 = .block 1 c82_15 := by kernel_rfl
def c82_16 := sB c82_13
theorem e82_16 : aI c82_16 = some [oo 9 (.move (.tmp 3)) 3,oo 10 (.binOp .add 3 (.tmp 9) (.const (.int .i64 2)) 3) 3,oo 3 (.assign (.tmp 10)) 3] := by kernel_rfl
theorem e82_13 : c82_13 = .seq c82_14 c82_16 := by kernel_rfl
theorem e82_7 : c82_7 = .seq c82_8 c82_13 := by kernel_rfl
theorem e82_6 : c82_6 = .loop c82_7 := by kernel_rfl
theorem e82_5 : c82_5 = .block 0 c82_6 := by kernel_rfl
theorem e82_3 : c82_3 = .seq c82_4 c82_5 := by kernel_rfl
def c82_17 := sB c82_2
def c82_18 := sA c82_17
theorem e82_18 : aI c82_18 = some [oo 24 (.move (.tmp 2)) 78,oo 2 (.assign (.tmp 24)) 78] := by kernel_rfl
def c82_19 := sB c82_17
theorem e82_19 : c82_19 = .ret := by kernel_rfl
theorem e82_17 : c82_17 = .seq c82_18 c82_19 := by kernel_rfl
theorem e82_2 : c82_2 = .seq c82_3 c82_17 := by kernel_rfl
theorem e82_0 : c82_0 = .seq c82_1 c82_2 := by kernel_rfl
def c83_0 := cK Try.f83
def c83_1 := sA c83_0
theorem e83_1 : aI c83_1 = some [oo 5 (.assign (.const (.slice none 0 0))) 78] := by kernel_rfl
def c83_2 := sB c83_0
def c83_3 := sA c83_2
def c83_4 := sA c83_3
theorem e83_4 : aI c83_4 = some [oo 7 (.load 3 (.tmp 2)) 3,oo 8 (.move (.const (.int .i64 0))) 3] := by kernel_rfl
def c83_5 := sB c83_3
def c83_6 := bB c83_5
def c83_7 := bB c83_6
def c83_8 := sA c83_7
theorem e83_8 : aI c83_8 = some [oo 9 (.binOp .lss 3 (.tmp 8) (.tmp 7) 3) 4] := by kernel_rfl
def c83_9 := sB c83_7
def c83_10 := sA c83_9
def c83_11 := cT c83_10
theorem e83_11 : c83_11 = .skip := by kernel_rfl
def c83_12 := cE c83_10
theorem e83_12 : c83_12 = .exit 0 := by kernel_rfl
theorem e83_10 : c83_10 = .cond (.tmp 9) c83_11 c83_12 := by kernel_rfl
def c83_13 := sB c83_9
def c83_14 := sA c83_13
def c83_15 := bB c83_14
def c83_16 := sA c83_15
theorem e83_16 : aI c83_16 = some [oo 10 (.move (.tmp 8)) 3,oo 6 (.assign (.tmp 10)) 3] := by kernel_rfl
def c83_17 := sB c83_15
def c83_18 := sA c83_17
theorem e83_18 : aI c83_18 = some [oo 11 (.move (.tmp 5)) 78,oo 12 (.move (.tmp 1)) 3,oo 13 (.move (.tmp 6)) 3,oo 14 (.build 137 (List.toArray [(0,(.tmp 12)),(1,(.tmp 13))])) 137,oo 15 (.buildSlice 78 1 (List.toArray [(0,(.tmp 14))])) 78,oo 16 (.call ⟨.builtin .append,#[(.tmp 11),(.tmp 15)],#[78,78]⟩) 78,oo 5 (.assign (.tmp 16)) 78] := by kernel_rfl
def c83_19 := sB c83_17
theorem e83_19 : aI c83_19 = some [oo 17 (.move (.tmp 5)) 78,oo 18 (.move (.tmp 0)) 3,oo 19 (.indexAddr 78 (.tmp 17) (.const (.int .i64 0))) 0,oo 20 (.fieldAddr 137 (.tmp 19) 0) 0,⟨none,none,.store 3 (.tmp 20) (.tmp 18),0⟩] := by kernel_rfl
theorem e83_17 : c83_17 = .seq c83_18 c83_19 := by kernel_rfl
theorem e83_15 : c83_15 = .seq c83_16 c83_17 := by kernel_rfl
theorem e83_14 : c83_14 = .block 1 c83_15 := by kernel_rfl
def c83_20 := sB c83_13
theorem e83_20 : aI c83_20 = some [oo 21 (.binOp .add 3 (.tmp 8) (.const (.int .i64 1)) 3) 3,oo 8 (.move (.tmp 21)) 3] := by kernel_rfl
theorem e83_13 : c83_13 = .seq c83_14 c83_20 := by kernel_rfl
theorem e83_9 : c83_9 = .seq c83_10 c83_13 := by kernel_rfl
theorem e83_7 : c83_7 = .seq c83_8 c83_9 := by kernel_rfl
theorem e83_6 : c83_6 = .loop c83_7 := by kernel_rfl
theorem e83_5 : c83_5 = .block 0 c83_6 := by kernel_rfl
theorem e83_3 : c83_3 = .seq c83_4 c83_5 := by kernel_rfl
def c83_21 := sB c83_2
def c83_22 := sA c83_21
theorem e83_22 : aI c83_22 = some [oo 22 (.move (.tmp 5)) 78,oo 5 (.assign (.tmp 22)) 78] := by kernel_rfl
def c83_23 := sB c83_21
theorem e83_23 : c83_23 = .ret := by kernel_rfl
theorem e83_21 : c83_21 = .seq c83_22 c83_23 := by kernel_rfl
theorem e83_2 : c83_2 = .seq c83_3 c83_21 := by kernel_rfl
theorem e83_0 : c83_0 = .seq c83_1 c83_2 := by kernel_rfl
def c84_0 := cK Try.f84
def c84_1 := sA c84_0
theorem e84_1 : aI c84_1 = some [oo 4 (.assign (.const (.slice none 0 0))) 43,oo 5 (.assign (.const (.int .i64 0))) 35] := by kernel_rfl
def c84_2 := sB c84_0
def c84_3 := sA c84_2
def c84_4 := sA c84_3
theorem e84_4 : aI c84_4 = some [oo 15 (.move (.tmp 0)) 43,oo 16 (.call ⟨.value (.func 93),(List.toArray [(.tmp 15)]),#[43]⟩) 48,oo 14 (.move (.tmp 16)) 48,oo 17 (.extract (.tmp 14) 0) 3,oo 18 (.extract (.tmp 14) 1) 35,oo 6 (.assign (.tmp 17)) 3,oo 7 (.assign (.tmp 18)) 35] := by kernel_rfl
def c84_5 := sB c84_3
def c84_6 := sA c84_5
theorem e84_6 : aI c84_6 = some [oo 19 (.move (.tmp 7)) 35,oo 20 (.binOp .neq 35 (.tmp 19) (.const (.int .i64 0)) 35) 4] := by kernel_rfl
def c84_7 := sB c84_5
def c84_8 := cT c84_7
def c84_9 := sA c84_8
theorem e84_9 : aI c84_9 = some [oo 21 (.move (.tmp 7)) 35,oo 4 (.assign (.const (.slice none 0 0))) 43,oo 5 (.assign (.tmp 21)) 35] := by kernel_rfl
def c84_10 := sB c84_8
theorem e84_10 : c84_10 = .ret := by kernel_rfl
theorem e84_8 : c84_8 = .seq c84_9 c84_10 := by kernel_rfl
def c84_11 := cE c84_7
theorem e84_11 : c84_11 = .skip := by kernel_rfl
theorem e84_7 : c84_7 = .cond (.tmp 20) c84_8 c84_11 := by kernel_rfl
theorem e84_5 : c84_5 = .seq c84_6 c84_7 := by kernel_rfl
theorem e84_3 : c84_3 = .seq c84_4 c84_5 := by kernel_rfl
def c84_12 := sB c84_2
def c84_13 := sA c84_12
theorem e84_13 : aI c84_13 = some [oo 23 (.move (.tmp 0)) 43,oo 24 (.move (.tmp 1)) 78,oo 25 (.call ⟨.value (.func 94),(List.toArray [(.tmp 23),(.tmp 24)]),#[43,78]⟩) 155,oo 22 (.move (.tmp 25)) 155,oo 26 (.extract (.tmp 22) 0) 154,oo 27 (.extract (.tmp 22) 1) 4,oo 8 (.alloc 154) 0,⟨none,none,.store 154 (.tmp 8) (.tmp 26),0⟩,oo 9 (.assign (.tmp 27)) 4] := by kernel_rfl
def c84_14 := sB c84_12
def c84_15 := sA c84_14
def c84_16 := sA c84_15
theorem e84_16 : aI c84_16 = some [oo 28 (.move (.tmp 9)) 4,oo 29 (.unOp .not 4 (.tmp 28)) 4] := by kernel_rfl
def c84_17 := sB c84_15
def c84_18 := cT c84_17
def c84_19 := sA c84_18
theorem e84_19 : aI c84_19 = some [oo 4 (.assign (.const (.slice none 0 0))) 43,oo 5 (.assign (.const (.int .i64 4))) 35] := by kernel_rfl
def c84_20 := sB c84_18
theorem e84_20 : c84_20 = .ret := by kernel_rfl
theorem e84_18 : c84_18 = .seq c84_19 c84_20 := by kernel_rfl
def c84_21 := cE c84_17
theorem e84_21 : c84_21 = .skip := by kernel_rfl
theorem e84_17 : c84_17 = .cond (.tmp 29) c84_18 c84_21 := by kernel_rfl
theorem e84_15 : c84_15 = .seq c84_16 c84_17 := by kernel_rfl
def c84_22 := sB c84_14
def c84_23 := sA c84_22
theorem e84_23 : aI c84_23 = some [oo 30 (.move (.tmp 1)) 78,oo 31 (.call ⟨.builtin .len,#[(.tmp 30)],#[78]⟩) 3,oo 32 (.makeSlice 43 (.tmp 31) (.tmp 31)) 43,oo 10 (.assign (.tmp 32)) 43] := by kernel_rfl
def c84_24 := sB c84_22
def c84_25 := sA c84_24
def c84_26 := sA c84_25
theorem e84_26 : aI c84_26 = some [oo 33 (.move (.tmp 1)) 78,oo 34 (.call ⟨.builtin .len,#[(.tmp 33)],#[78]⟩) 3,oo 35 (.move (.const (.int .i64 0))) 3] := by kernel_rfl
def c84_27 := sB c84_25
def c84_28 := bB c84_27
def c84_29 := bB c84_28
def c84_30 := sA c84_29
theorem e84_30 : aI c84_30 = some [oo 36 (.binOp .lss 3 (.tmp 35) (.tmp 34) 3) 0] := by kernel_rfl
def c84_31 := sB c84_29
def c84_32 := sA c84_31
def c84_33 := cT c84_32
theorem e84_33 : c84_33 = .skip := by kernel_rfl
def c84_34 := cE c84_32
theorem e84_34 : c84_34 = .exit 0 := by kernel_rfl
theorem e84_32 : c84_32 = .cond (.tmp 36) c84_33 c84_34 := by kernel_rfl
def c84_35 := sB c84_31
def c84_36 := sA c84_35
def c84_37 := bB c84_36
def c84_38 := sA c84_37
theorem e84_38 : aI c84_38 = some [oo 37 (.move (.tmp 35)) 3,oo 38 (.indexAddr 78 (.tmp 33) (.tmp 35)) 0,oo 39 (.load 137 (.tmp 38)) 137,oo 12 (.alloc 137) 0,oo 11 (.assign (.tmp 37)) 3,⟨none,none,.store 137 (.tmp 12) (.tmp 39),0⟩] := by kernel_rfl
def c84_39 := sB c84_37
def c84_40 := sA c84_39
def c84_41 := sA c84_40
theorem e84_41 : aI c84_41 = some [oo 40 (.fieldAddr 137 (.tmp 12) 1) 0,oo 41 (.load 3 (.tmp 40)) 3,oo 42 (.indexAddr 154 (.tmp 8) (.tmp 41)) 0,oo 43 (.fieldAddr 152 (.tmp 42) 1) 0,oo 44 (.load 3 (.tmp 43)) 3,oo 13 (.assign (.tmp 44)) 3] := by kernel_rfl
def c84_42 := sB c84_40
def c84_43 := bB c84_42
def c84_44 := sA c84_43
theorem e84_44 : aI c84_44 = some [oo 54 (.fieldAddr 137 (.tmp 12) 0) 0,oo 55 (.load 3 (.tmp 54)) 3,oo 56 (.binOp .eql 3 (.tmp 55) (.const (.int .i64 4)) 3) 4,oo 53 (.assign (.tmp 56)) 4] := by kernel_rfl
def c84_45 := sB c84_43
def c84_46 := cT c84_45
theorem e84_46 : aI c84_46 = some [oo 57 (.move (.tmp 10)) 43,oo 58 (.move (.tmp 11)) 3,oo 59 (.move (.tmp 13)) 3,oo 60 (.indexAddr 43 (.tmp 57) (.tmp 58)) 0,⟨none,none,.store 3 (.tmp 60) (.tmp 59),0⟩] := by kernel_rfl
def c84_47 := cE c84_45
def c84_48 := sA c84_47
theorem e84_48 : aI c84_48 = some [oo 62 (.move (.tmp 13)) 3,oo 63 (.binOp .gtr 3 (.tmp 62) (.const (.int .i64 0)) 3) 4,oo 61 (.assign (.tmp 63)) 4] := by kernel_rfl
def c84_49 := sB c84_47
def c84_50 := cT c84_49
theorem e84_50 : aI c84_50 = some [oo 64 (.move (.tmp 10)) 43,oo 65 (.move (.tmp 11)) 3,oo 66 (.move (.tmp 0)) 43,oo 67 (.fieldAddr 137 (.tmp 12) 1) 0,oo 68 (.load 3 (.tmp 67)) 3,oo 69 (.indexAddr 43 (.tmp 66) (.tmp 68)) 0,oo 70 (.load 3 (.tmp 69)) 3,oo 71 (.move (.tmp 13)) 3,oo 72 (.binOp .quo 3 (.tmp 70) (.tmp 71) 3) 3,oo 73 (.indexAddr 43 (.tmp 64) (.tmp 65)) 0,⟨none,none,.store 3 (.tmp 73) (.tmp 72),0⟩] := by kernel_rfl
def c84_51 := cE c84_49
theorem e84_51 : aI c84_51 = some [oo 45 (.move (.tmp 10)) 43,oo 46 (.move (.tmp 11)) 3,oo 47 (.move (.tmp 0)) 43,oo 48 (.fieldAddr 137 (.tmp 12) 1) 0,oo 49 (.load 3 (.tmp 48)) 3,oo 50 (.indexAddr 43 (.tmp 47) (.tmp 49)) 0,oo 51 (.load 3 (.tmp 50)) 3,oo 52 (.indexAddr 43 (.tmp 45) (.tmp 46)) 0,⟨none,none,.store 3 (.tmp 52) (.tmp 51),0⟩] := by kernel_rfl
theorem e84_49 : c84_49 = .cond (.tmp 61) c84_50 c84_51 := by kernel_rfl
theorem e84_47 : c84_47 = .seq c84_48 c84_49 := by kernel_rfl
theorem e84_45 : c84_45 = .cond (.tmp 53) c84_46 c84_47 := by kernel_rfl
theorem e84_43 : c84_43 = .seq c84_44 c84_45 := by kernel_rfl
theorem e84_42 : c84_42 = .block 2 c84_43 := by kernel_rfl
theorem e84_40 : c84_40 = .seq c84_41 c84_42 := by kernel_rfl
def c84_52 := sB c84_39
def c84_53 := sA c84_52
theorem e84_53 : aI c84_53 = some [oo 74 (.move (.tmp 10)) 43,oo 75 (.move (.tmp 11)) 3,oo 76 (.indexAddr 43 (.tmp 74) (.tmp 75)) 0,oo 77 (.load 3 (.tmp 76)) 3,oo 78 (.binOp .gtr 3 (.tmp 77) (.const (.int .i64 2147483648)) 3) 4] := by kernel_rfl
def c84_54 := sB c84_52
def c84_55 := cT c84_54
def c84_56 := sA c84_55
theorem e84_56 : aI c84_56 = some [oo 4 (.assign (.const (.slice none 0 0))) 43,oo 5 (.assign (.const (.int .i64 2))) 35] := by kernel_rfl
def c84_57 := sB c84_55
theorem e84_57 : c84_57 = .ret := by kernel_rfl
theorem e84_55 : c84_55 = .seq c84_56 c84_57 := by kernel_rfl
def c84_58 := cE c84_54
theorem e84_58 : c84_58 = .skip := by kernel_rfl
theorem e84_54 : c84_54 = .cond (.tmp 78) c84_55 c84_58 := by kernel_rfl
theorem e84_52 : c84_52 = .seq c84_53 c84_54 := by kernel_rfl
theorem e84_39 : c84_39 = .seq c84_40 c84_52 := by kernel_rfl
theorem e84_37 : c84_37 = .seq c84_38 c84_39 := by kernel_rfl
theorem e84_36 : c84_36 = .block 1 c84_37 := by kernel_rfl
def c84_59 := sB c84_35
theorem e84_59 : aI c84_59 = some [oo 79 (.binOp .add 3 (.tmp 35) (.const (.int .i64 1)) 3) 3,oo 35 (.move (.tmp 79)) 3] := by kernel_rfl
theorem e84_35 : c84_35 = .seq c84_36 c84_59 := by kernel_rfl
theorem e84_31 : c84_31 = .seq c84_32 c84_35 := by kernel_rfl
theorem e84_29 : c84_29 = .seq c84_30 c84_31 := by kernel_rfl
theorem e84_28 : c84_28 = .loop c84_29 := by kernel_rfl
theorem e84_27 : c84_27 = .block 0 c84_28 := by kernel_rfl
theorem e84_25 : c84_25 = .seq c84_26 c84_27 := by kernel_rfl
def c84_60 := sB c84_24
def c84_61 := sA c84_60
theorem e84_61 : aI c84_61 = some [oo 80 (.move (.tmp 10)) 43,oo 4 (.assign (.tmp 80)) 43,oo 5 (.assign (.const (.int .i64 0))) 35] := by kernel_rfl
def c84_62 := sB c84_60
theorem e84_62 : c84_62 = .ret := by kernel_rfl
theorem e84_60 : c84_60 = .seq c84_61 c84_62 := by kernel_rfl
theorem e84_24 : c84_24 = .seq c84_25 c84_60 := by kernel_rfl
theorem e84_22 : c84_22 = .seq c84_23 c84_24 := by kernel_rfl
theorem e84_14 : c84_14 = .seq c84_15 c84_22 := by kernel_rfl
theorem e84_12 : c84_12 = .seq c84_13 c84_14 := by kernel_rfl
theorem e84_2 : c84_2 = .seq c84_3 c84_12 := by kernel_rfl
theorem e84_0 : c84_0 = .seq c84_1 c84_2 := by kernel_rfl
def c85_0 := cK Try.f85
def c85_1 := sA c85_0
theorem e85_1 : aI c85_1 = some [oo 4 (.load 28 (.tmp 1)) 28,oo 5 (.call ⟨.builtin .len,#[(.tmp 4)],#[28]⟩) 3,oo 6 (.binOp .sub 3 (.tmp 5) (.const (.int .i64 1)) 3) 3,oo 3 (.assign (.tmp 6)) 3] := by kernel_rfl
def c85_2 := sB c85_0
def c85_3 := bB c85_2
def c85_4 := bB c85_3
def c85_5 := sA c85_4
def c85_6 := sA c85_5
theorem e85_6 : aI c85_6 = some [oo 7 (.move (.tmp 3)) 3,oo 8 (.binOp .geq 3 (.tmp 7) (.const (.int .i64 0)) 3) 4] := by kernel_rfl
def c85_7 := sB c85_5
def c85_8 := cT c85_7
theorem e85_8 : c85_8 = .skip := by kernel_rfl
def c85_9 := cE c85_7
theorem e85_9 : c85_9 = .exit 0 := by kernel_rfl
theorem e85_7 : c85_7 = .cond (.tmp 8) c85_8 c85_9 := by kernel_rfl
theorem e85_5 : c85_5 = .seq c85_6 c85_7 := by kernel_rfl
def c85_10 := sB c85_4
def c85_11 := sA c85_10
def c85_12 := bB c85_11
def c85_13 := sA c85_12
theorem e85_13 : aI c85_13 = some [oo 11 (.move (.tmp 0)) 143,oo 12 (.move (.tmp 3)) 3,oo 13 (.load 28 (.tmp 1)) 28,oo 14 (.move (.tmp 3)) 3,oo 15 (.indexAddr 28 (.tmp 13) (.tmp 14)) 0,oo 16 (.load 9 (.tmp 15)) 9,oo 17 (.call ⟨.value (.tmp 11),(List.toArray [(.tmp 12),(.tmp 16)]),#[3,9]⟩) 4,oo 18 (.unOp .not 4 (.tmp 17)) 4] := by kernel_rfl
def c85_14 := sB c85_12
def c85_15 := cT c85_14
def c85_16 := cE c85_14
theorem e85_16 : c85_16 = .skip := by kernel_rfl
theorem e85_14 : c85_14 = .cond (.tmp 18) c85_15 c85_16 := by kernel_rfl
theorem e85_12 : c85_12 = .seq c85_13 c85_14 := by kernel_rfl
theorem e85_11 : c85_11 = .block 1 c85_12 := by kernel_rfl
def c85_17 := sB c85_10
theorem e85_17 : aI c85_17 = some [oo 9 (.move (.tmp 3)) 3,oo 10 (.binOp .sub 3 (.tmp 9) (.const (.int .i64 1)) 3) 3,oo 3 (.assign (.tmp 10)) 3] := by kernel_rfl
theorem e85_10 : c85_10 = .seq c85_11 c85_17 := by kernel_rfl
theorem e85_4 : c85_4 = .seq c85_5 c85_10 := by kernel_rfl
theorem e85_3 : c85_3 = .loop c85_4 := by kernel_rfl
theorem e85_2 : c85_2 = .block 0 c85_3 := by kernel_rfl
theorem e85_0 : c85_0 = .seq c85_1 c85_2 := by kernel_rfl
def c86_0 := cK Try.f86
def c86_1 := sA c86_0
theorem e86_1 : aI c86_1 = some [oo 4 (.assign (.const (.int .i64 0))) 3] := by kernel_rfl
def c86_2 := sB c86_0
def c86_3 := sA c86_2
theorem e86_3 : aI c86_3 = some [oo 5 (.move (.tmp 0)) 9,oo 6 (.move (.tmp 1)) 5,oo 7 (.call ⟨.value (.func 95),(List.toArray [(.tmp 5),(.tmp 6)]),#[9,5]⟩) 3,oo 4 (.assign (.tmp 7)) 3] := by kernel_rfl
def c86_4 := sB c86_2
theorem e86_4 : c86_4 = .ret := by kernel_rfl
theorem e86_2 : c86_2 = .seq c86_3 c86_4 := by kernel_rfl
theorem e86_0 : c86_0 = .seq c86_1 c86_2 := by kernel_rfl
def c87_0 := cK Try.f87
def c87_1 := sA c87_0
theorem e87_1 : aI c87_1 = some [oo 2 (.assign (.const (.int .i64 0))) 2,oo 3 (.assign (.const (.bool false))) 4] := by kernel_rfl
def c87_2 := sB c87_0
def c87_3 := sA c87_2
def c87_4 := sA c87_3
theorem e87_4 : aI c87_4 = some [oo 5 (.move (.tmp 0)) 9,oo 6 (.binOp .eql 9 (.tmp 5) (.const (.string ByteArray.empty)) 9) 4,oo 7 (.move (.tmp 6)) 4,⟨some (7,false),some 8,.move (.tmp 0),9⟩,⟨some (7,false),some 9,.call ⟨.builtin .len,#[(.tmp 8)],#[9]⟩,3⟩,⟨some (7,false),some 10,.binOp .gtr 3 (.tmp 9) (.const (.int .i64 18)) 3,4⟩,oo 11 (.pick (.tmp 7) (.const (.bool true)) (.tmp 10)) 4,oo 12 (.move (.tmp 11)) 4,⟨some (12,false),some 13,.move (.tmp 0),9⟩,⟨some (12,false),some 14,.call ⟨.builtin .len,#[(.tmp 13)],#[9]⟩,3⟩,⟨some (12,false),some 15,.binOp .gtr 3 (.tmp 14) (.const (.int .i64 1)) 3,4⟩,⟨some (12,false),some 16,.move (.tmp 15),4⟩,⟨some (16,true),some 17,.move (.tmp 0),9⟩,⟨some (16,true),some 18,.index 9 (.tmp 17) (.const (.int .i64 0)),5⟩,⟨some (16,true),some 19,.binOp .eql 5 (.tmp 18) (.const (.int .u8 48)) 5,4⟩,⟨some (12,false),some 20,.pick (.tmp 16) (.tmp 19) (.const (.bool false)),4⟩,oo 21 (.pick (.tmp 12) (.const (.bool true)) (.tmp 20)) 4] := by kernel_rfl
def c87_5 := sB c87_3
def c87_6 := cT c87_5
def c87_7 := sA c87_6
theorem e87_7 : aI c87_7 = some [oo 2 (.assign (.const (.int .i64 0))) 2,oo 3 (.assign (.const (.bool false))) 4] := by kernel_rfl
def c87_8 := sB c87_6
theorem e87_8 : c87_8 = .ret := by kernel_rfl
theorem e87_6 : c87_6 = .seq c87_7 c87_8 := by kernel_rfl
def c87_9 := cE c87_5
theorem e87_9 : c87_9 = .skip := by kernel_rfl
theorem e87_5 : c87_5 = .cond (.tmp 21) c87_6 c87_9 := by kernel_rfl
theorem e87_3 : c87_3 = .seq c87_4 c87_5 := by kernel_rfl
def c87_10 := sB c87_2
def c87_11 := sA c87_10
def c87_12 := sA c87_11
theorem e87_12 : aI c87_12 = some [oo 22 (.move (.tmp 0)) 9,oo 23 (.call ⟨.builtin .len,#[(.tmp 22)],#[9]⟩) 3,oo 24 (.move (.const (.int .i64 0))) 3] := by kernel_rfl
def c87_13 := sB c87_11
def c87_14 := bB c87_13
def c87_15 := bB c87_14
def c87_16 := sA c87_15
theorem e87_16 : aI c87_16 = some [oo 25 (.binOp .lss 3 (.tmp 24) (.tmp 23) 3) 4] := by kernel_rfl
def c87_17 := sB c87_15
def c87_18 := sA c87_17
def c87_19 := cT c87_18
theorem e87_19 : c87_19 = .skip := by kernel_rfl
def c87_20 := cE c87_18
theorem e87_20 : c87_20 = .exit 0 := by kernel_rfl
theorem e87_18 : c87_18 = .cond (.tmp 25) c87_19 c87_20 := by kernel_rfl
def c87_21 := sB c87_17
def c87_22 := sA c87_21
def c87_23 := bB c87_22
def c87_24 := sA c87_23
theorem e87_24 : aI c87_24 = some [oo 26 (.move (.tmp 24)) 3,oo 4 (.assign (.tmp 26)) 3] := by kernel_rfl
def c87_25 := sB c87_23
def c87_26 := sA c87_25
def c87_27 := sA c87_26
theorem e87_27 : aI c87_27 = some [oo 27 (.move (.tmp 0)) 9,oo 28 (.move (.tmp 4)) 3,oo 29 (.index 9 (.tmp 27) (.tmp 28)) 5,oo 30 (.call ⟨.value (.func 62),(List.toArray [(.tmp 29)]),#[5]⟩) 3,oo 31 (.binOp .neq 3 (.tmp 30) (.const (.int .i64 2)) 3) 4] := by kernel_rfl
def c87_28 := sB c87_26
def c87_29 := cT c87_28
def c87_30 := sA c87_29
theorem e87_30 : aI c87_30 = some [oo 2 (.assign (.const (.int .i64 0))) 2,oo 3 (.assign (.const (.bool false))) 4] := by kernel_rfl
def c87_31 := sB c87_29
theorem e87_31 : c87_31 = .ret := by kernel_rfl
theorem e87_29 : c87_29 = .seq c87_30 c87_31 := by kernel_rfl
def c87_32 := cE c87_28
theorem e87_32 : c87_32 = .skip := by kernel_rfl
end
end Go.Proofs.Ytjdfoipnmbnkeaa
