/- Part 3 of the proof that laws.FnFull answers true at every input and leaves it as it was: an own small semantics of the translated code, contracts of the functions, the plain law. No condition. -/
import Derived.KernelRfl
import Derived.Test.YtgigidjdnoidkaaGreatDoorChecked
import Derived.Test.YtgigidjdnoidkaaGreatDoorFnB
set_option linter.unusedVariables false
set_option linter.unusedSimpArgs false
set_option linter.unnecessarySimpa false
open Go.Proofs
namespace Go.AW
set_option maxRecDepth 10000
noncomputable section
abbrev f_laws_FnFull : FuncId := 3
abbrev f_spec_MakeBook : FuncId := 4
abbrev f_spec_MakeReq : FuncId := 5
abbrev f_impl_BookAt : FuncId := 6
abbrev f_impl_ReqMsg : FuncId := 7
abbrev f_impl_Encode : FuncId := 8
abbrev f_impl_Handle : FuncId := 9
abbrev f_spec_MakeNum : FuncId := 10
abbrev f_impl_ReplyCode : FuncId := 11
abbrev f_impl_BookSame : FuncId := 12
abbrev f_spec_l01New : FuncId := 13
abbrev f_spec_l12Draw : FuncId := 14
abbrev f_spec_l09Draw : FuncId := 15
abbrev f_spec_l12Req : FuncId := 16
abbrev f_spec_l01Below : FuncId := 17
abbrev f_slices_IndexFunc_impl_Acct_impl_Acct : FuncId := 18
abbrev f_impl_BookAt_1 : FuncId := 19
abbrev f_impl_ReqOk : FuncId := 20
abbrev f_impl_OpCode : FuncId := 21
abbrev f_impl_Wide : FuncId := 22
abbrev f_impl_FieldFit : FuncId := 23
abbrev f_impl_uses : FuncId := 24
abbrev f_impl_MsgOk : FuncId := 25
abbrev f_impl_PutField : FuncId := 26
abbrev f_impl_PutBcd : FuncId := 27
abbrev f_impl_PutBits : FuncId := 28
abbrev f_impl_Parse : FuncId := 29
abbrev f_impl_BookOk : FuncId := 30
abbrev f_impl_isTime : FuncId := 31
abbrev f_impl_Book_copied : FuncId := 32
abbrev f_impl_GetBcd : FuncId := 33
abbrev f_impl_ReplyMti : FuncId := 34
abbrev f_impl_Bare : FuncId := 35
abbrev f_impl_ReqOf : FuncId := 36
abbrev f_impl_replied : FuncId := 37
abbrev f_impl_SlotOf : FuncId := 38
abbrev f_impl_Deal : FuncId := 39
abbrev f_impl_SlotPut : FuncId := 40
abbrev f_impl_FieldOf : FuncId := 41
abbrev f_impl_TextRs : FuncId := 42
abbrev f_slices_EqualFunc_impl_Acct_impl_Acct_impl_Acct_impl_Acct : FuncId := 43
abbrev f_impl_AcctSame : FuncId := 44
abbrev f_spec_l01Once : FuncId := 45
abbrev f_spec_AcctNew : FuncId := 46
abbrev f_spec_l01Pick : FuncId := 47
abbrev f_spec_l06Draw : FuncId := 48
abbrev f_spec_l07Draw : FuncId := 49
abbrev f_spec_AddSat : FuncId := 50
abbrev f_spec_Stored : FuncId := 51
abbrev f_spec_l08Draw : FuncId := 52
abbrev f_spec_l11Draw : FuncId := 53
abbrev f_spec_l11Hold : FuncId := 54
abbrev f_spec_l11Amount : FuncId := 55
abbrev f_spec_l01Byte : FuncId := 56
abbrev f_impl_opOf : FuncId := 57
abbrev f_impl_AcctIdOk : FuncId := 58
abbrev f_impl_isWide : FuncId := 59
abbrev f_impl_HoldIdOk : FuncId := 60
abbrev f_impl_within : FuncId := 61
abbrev f_strconv_Itoa : FuncId := 62
abbrev f_strings_Repeat : FuncId := 63
abbrev f_impl_FieldSize : FuncId := 64
abbrev f_impl_FieldKind : FuncId := 65
abbrev f_impl_FieldOk : FuncId := 66
abbrev f_slices_Contains_int_int : FuncId := 67
abbrev f_impl_PutLen : FuncId := 68
abbrev f_impl_lenDigits : FuncId := 69
abbrev f_impl_Digits : FuncId := 70
abbrev f_impl_GetBits : FuncId := 71
abbrev f_impl_GetField : FuncId := 72
abbrev f_impl_AcctOk : FuncId := 73
abbrev f_impl_Book_each : FuncId := 74
abbrev f_impl_Acct_copied : FuncId := 75
abbrev f_impl_piece : FuncId := 76
abbrev f_impl_RsText : FuncId := 77
abbrev f_impl_MtiKnown : FuncId := 78
abbrev f_slices_IndexFunc_impl_opRow_impl_opRow : FuncId := 79
abbrev f_impl_opRows : FuncId := 80
abbrev f_impl_ReqOf_1 : FuncId := 81
abbrev f_impl_Narrow : FuncId := 82
abbrev f_impl_FieldBare : FuncId := 83
abbrev f_impl_Reply : FuncId := 84
abbrev f_impl_slotAt : FuncId := 85
abbrev f_slices_Clone_byte_byte : FuncId := 86
abbrev f_impl_copySlots : FuncId := 94
abbrev f_slices_Clone_impl_Slot_impl_Slot : FuncId := 95
abbrev f_impl_SlotsOk : FuncId := 96
abbrev f_slices_Index_string_string : FuncId := 97
abbrev f_impl_rsTexts : FuncId := 98
abbrev f_slices_Equal_impl_Hold_impl_Hold : FuncId := 99
abbrev f_impl_ringSame : FuncId := 100
abbrev f_impl_SlotsSame : FuncId := 101
abbrev f_spec_RingNew : FuncId := 102
abbrev f_spec_AcctOk : FuncId := 103
abbrev f_spec_RingAdd : FuncId := 104
abbrev f_spec_HoldPut : FuncId := 105
abbrev f_spec_l07Hold : FuncId := 106
abbrev f_spec_AddMoney : FuncId := 107
abbrev f_spec_l01Clamp : FuncId := 108
abbrev f_spec_SlotPut : FuncId := 109
abbrev f_spec_l08Slot : FuncId := 110
abbrev f_spec_OpMti : FuncId := 111
abbrev f_spec_l09Id : FuncId := 112
abbrev f_spec_l11Trace : FuncId := 113
abbrev f_spec_l07Id : FuncId := 114
abbrev f_spec_l11Op : FuncId := 115
abbrev f_spec_l01In : FuncId := 116
abbrev f_impl_LuhnOk : FuncId := 117
abbrev f_impl_rowOf : FuncId := 125
abbrev f_impl_Printable : FuncId := 126
abbrev f_slices_Index_int_int : FuncId := 127
abbrev f_impl_GetLen : FuncId := 128
abbrev f_impl_isMoney : FuncId := 129
abbrev f_impl_HoldsOk : FuncId := 130
abbrev f_impl_RingOk : FuncId := 131
abbrev f_impl_AddSat : FuncId := 132
abbrev f_impl_Stored : FuncId := 133
abbrev f_slices_Clone_impl_Hold_impl_Hold : FuncId := 134
abbrev f_impl_Ring_copied : FuncId := 135
abbrev f_strconv_Atoi : FuncId := 136
abbrev f_strings_TrimRight : FuncId := 137
abbrev f_impl_Reply_1 : FuncId := 138
abbrev f_slices_IndexFunc_impl_Slot_impl_Slot : FuncId := 139
abbrev f_impl_slotAt_1 : FuncId := 140
abbrev f_impl_SlotOk : FuncId := 149
abbrev f_slices_Equal_int_int : FuncId := 150
abbrev f_slices_EqualFunc_impl_Slot_impl_Slot_impl_Slot_impl_Slot : FuncId := 151
abbrev f_impl_SlotsSame_1 : FuncId := 152
abbrev f_slices_Equal_byte_byte : FuncId := 153
abbrev f_spec_AcctIdOk : FuncId := 154
abbrev f_spec_l01Money : FuncId := 155
abbrev f_spec_HoldsOk : FuncId := 156
abbrev f_spec_RingOk : FuncId := 157
abbrev f_spec_SlotsOk : FuncId := 158
abbrev f_spec_l06Time : FuncId := 159
abbrev f_spec_l06Copy : FuncId := 160
abbrev f_spec_RingRoll : FuncId := 161
abbrev f_spec_l08Copy : FuncId := 162
abbrev f_spec_l01Str : FuncId := 163
abbrev f_spec_l01Bytes : FuncId := 164
abbrev f_spec_l11Mtis : FuncId := 165
abbrev f_impl_Luhn : FuncId := 166
abbrev f_impl_fieldRows : FuncId := 173
abbrev f_impl_HoldOk : FuncId := 174
abbrev f_slices_Concat_int_int : FuncId := 175
abbrev f_slices_Clone_int_int : FuncId := 176
abbrev f_slices_Insert_impl_Hold_impl_Hold : FuncId := 188
abbrev f_spec_LuhnOk : FuncId := 193
abbrev f_spec_HoldOk : FuncId := 194
abbrev f_spec_SlotOk : FuncId := 195
abbrev f_slices_Grow_int_int : FuncId := 202
abbrev f_impl_total : FuncId := 212
abbrev f_spec_Digits : FuncId := 216
abbrev f_spec_Luhn : FuncId := 217
abbrev f_spec_HoldIdOk : FuncId := 218
noncomputable abbrev PG : Program := Tryz.prog
theorem hmix : PG.follows .mixedOrders = true := Tryz.checked.mixed
theorem en_strconv_Itoa : Enter PG f_strconv_Itoa := ⟨_, Tryz.func62, by kernel_rfl, by kernel_rfl⟩
theorem en_strconv_Atoi : Enter PG f_strconv_Atoi := ⟨_, Tryz.func136, by kernel_rfl, by kernel_rfl⟩
theorem en_strings_Repeat : Enter PG f_strings_Repeat := ⟨_, Tryz.func63, by kernel_rfl, by kernel_rfl⟩
theorem en_strings_TrimRight : Enter PG f_strings_TrimRight := ⟨_, Tryz.func137, by kernel_rfl, by kernel_rfl⟩
theorem en_slices_Grow_int_int : Enter PG f_slices_Grow_int_int := ⟨_, Tryz.func202, by kernel_rfl, by kernel_rfl⟩
end
end Go.AW
open Go.Proofs
namespace Go.AW
set_option maxRecDepth 10000
noncomputable section
def i_laws_FnFull : IFn := ⟨83, [.t 2],
 .seq (.reg [⟨some 2, none, .mov (.c (.bool false))⟩]) <|
 .seq (.seq (.reg [⟨some 16, none, .mov (.t 0)⟩,
    ⟨some 17, none, .len false (.t 16)⟩,
    ⟨some 18, none, .bin .gtr (.t 17) (.c (.int .i64 1048576))⟩]) <|
  .ite (.t 18) (
   .seq (.reg [⟨some 2, none, .mov (.c (.bool true))⟩]) <|
   .ret) (
   .skip)) <|
 .seq (.reg [⟨some 19, none, .mov (.t 0)⟩,
   ⟨some 20, none, .call (.f f_spec_MakeBook) [.t 19] true false⟩,
   ⟨some 3, none, .alloc [.z 11]⟩,
   ⟨none, none, .store 1 (.t 3) (.t 20)⟩]) <|
 .seq (.reg [⟨some 21, none, .mov (.t 0)⟩,
   ⟨some 22, none, .load true 1 (.t 3)⟩,
   ⟨some 23, none, .call (.f f_spec_MakeReq) [.t 21, .t 22] false false⟩,
   ⟨some 4, none, .alloc [.int .i64 0, .str [], .str [], .str [], .str [], .str [], .int .i64 0, .int .i64 0]⟩,
   ⟨none, none, .store 8 (.t 4) (.t 23)⟩]) <|
 .seq (.reg [⟨some 24, none, .load true 1 (.t 3)⟩,
   ⟨some 25, none, .faddr 1 (.t 4)⟩,
   ⟨some 26, none, .load false 1 (.t 25)⟩,
   ⟨some 27, none, .call (.f f_impl_BookAt) [.t 24, .t 26] false false⟩,
   ⟨some 5, none, .mov (.t 27)⟩]) <|
 .seq (.reg [⟨some 28, none, .bslice 3 0 (.agg [.str [], .str [], .z 1]) []⟩,
   ⟨some 6, none, .mov (.t 28)⟩]) <|
 .seq (.seq (.reg [⟨some 7, none, .mov (.c (.int .i64 0))⟩]) <|
  .blk 0 (
   .loop [0, 3, 4, 5, 6, 7] [] (
    .seq (.seq (.reg [⟨some 29, none, .mov (.t 7)⟩,
       ⟨some 30, none, .bin .lss (.t 29) (.c (.int .i64 6))⟩]) <|
     .ite (.t 30) (
      .skip) (
      .exit 0)) <|
    .seq (.blk 1 (
      .reg [⟨some 33, none, .mov (.t 6)⟩,
       ⟨some 34, none, .mov (.t 7)⟩,
       ⟨some 35, none, .bin .add (.c (.int .i64 48)) (.t 34)⟩,
       ⟨some 36, none, .conv (.int .u8) (.t 35)⟩,
       ⟨some 37, none, .bslice 1 1 (.int .u8 0) [(0, .t 36)]⟩,
       ⟨some 38, none, .conv .bytesStr (.t 37)⟩,
       ⟨some 39, none, .bin .add (.c (.str [57, 48, 48, 48, 48])) (.t 38)⟩,
       ⟨some 40, none, .bslice 1 1 (.int .u8 0) [(0, .c (.int .u8 1))]⟩,
       ⟨some 41, none, .build [.str [], .str [], .z 1] [(0, 1, .t 39), (1, 1, .c (.str [48, 49, 48, 48])), (2, 1, .t 40)]⟩,
       ⟨some 42, none, .bslice 3 1 (.agg [.str [], .str [], .z 1]) [(0, .t 41)]⟩,
       ⟨some 43, none, .app 3 56 (.t 33) (.t 42)⟩,
       ⟨some 6, none, .mov (.t 43)⟩])) <|
    .reg [⟨some 31, none, .mov (.t 7)⟩,
     ⟨some 32, none, .bin .add (.t 31) (.c (.int .i64 1))⟩,
     ⟨some 7, none, .mov (.t 32)⟩]))) <|
 .seq (.reg [⟨some 44, none, .faddr 0 (.t 3)⟩,
   ⟨some 45, none, .load false 1 (.t 44)⟩,
   ⟨some 46, none, .mov (.t 5)⟩,
   ⟨some 47, none, .mov (.t 6)⟩,
   ⟨some 48, none, .iaddr 11 (.t 45) (.t 46)⟩,
   ⟨some 49, none, .faddr 10 (.t 48)⟩,
   ⟨none, none, .store 1 (.t 49) (.t 47)⟩]) <|
 .seq (.reg [⟨some 51, none, .load true 8 (.t 4)⟩,
   ⟨some 52, none, .call (.f f_impl_ReqMsg) [.t 51] false false⟩,
   ⟨some 50, none, .mov (.t 52)⟩,
   ⟨some 53, none, .extr (.t 50) 0⟩,
   ⟨some 54, none, .extr (.t 50) 1⟩,
   ⟨some 8, none, .alloc [.str [], .z 2]⟩,
   ⟨none, none, .store 2 (.t 8) (.t 53)⟩,
   ⟨some 9, none, .mov (.t 54)⟩]) <|
 .seq (.reg [⟨some 56, none, .load true 2 (.t 8)⟩,
   ⟨some 57, none, .call (.f f_impl_Encode) [.t 56] false false⟩,
   ⟨some 55, none, .mov (.t 57)⟩,
   ⟨some 58, none, .extr (.t 55) 0⟩,
   ⟨some 59, none, .extr (.t 55) 1⟩,
   ⟨some 10, none, .mov (.t 58)⟩,
   ⟨some 11, none, .mov (.t 59)⟩]) <|
 .seq (.draw [⟨some 61, none, .load true 1 (.t 3)⟩,
   ⟨some 62, none, .mov (.t 10)⟩,
   ⟨some 63, none, .mov (.t 0)⟩,
   ⟨some 64, none, .call (.f f_spec_MakeNum) [.t 63, .c (.int .i64 30)] false false⟩,
   ⟨some 65, none, .call (.f f_impl_Handle) [.t 61, .t 62, .t 64] true false⟩,
   ⟨some 60, none, .mov (.t 65)⟩,
   ⟨some 66, none, .extr (.t 60) 0⟩,
   ⟨some 67, none, .extr (.t 60) 1⟩,
   ⟨some 12, none, .alloc [.z 11]⟩,
   ⟨none, none, .store 1 (.t 12) (.t 66)⟩,
   ⟨some 13, none, .mov (.t 67)⟩] [(0, 1), (0, 2), (1, 2), (0, 3), (1, 3), (6, 7), (0, 8), (1, 8), (2, 8), (3, 8), (4, 8), (5, 8), (6, 8), (7, 8), (7, 9)]) <|
 .seq (.reg [⟨some 69, none, .mov (.t 13)⟩,
   ⟨some 70, none, .call (.f f_impl_ReplyCode) [.t 69] false false⟩,
   ⟨some 68, none, .mov (.t 70)⟩,
   ⟨some 71, none, .extr (.t 68) 0⟩,
   ⟨some 72, none, .extr (.t 68) 1⟩,
   ⟨some 14, none, .mov (.t 71)⟩,
   ⟨some 15, none, .mov (.t 72)⟩]) <|
 .seq (.reg [⟨some 73, none, .mov (.t 15)⟩,
   ⟨some 74, none, .mov (.t 73)⟩,
   ⟨some 75, some (74, true), .mov (.t 14)⟩,
   ⟨some 76, some (74, true), .bin .eql (.t 75) (.c (.int .i64 10))⟩,
   ⟨some 77, none, .pick (.t 74) (.t 76) (.c (.bool false))⟩,
   ⟨some 78, none, .mov (.t 77)⟩,
   ⟨some 79, some (78, true), .load true 1 (.t 12)⟩,
   ⟨some 80, some (78, true), .load true 1 (.t 3)⟩,
   ⟨some 81, some (78, true), .call (.f f_impl_BookSame) [.t 79, .t 80] false false⟩,
   ⟨some 82, none, .pick (.t 78) (.t 81) (.c (.bool false))⟩,
   ⟨some 2, none, .mov (.t 82)⟩]) <|
 .ret⟩
theorem r_laws_FnFull {args : List A} {res : R} {outs : List (List O)} (ok : okArgs args = true) (h : Comes PG i_laws_FnFull args res outs) : Ret PG f_laws_FnFull args res outs :=
  ret_of hmix Tryz.func3 (by kernel_rfl) ok h
theorem p_laws_FnFull {args : List A} {Φ : R → List (List O) → Prop} (ok : okArgs args = true) (hl : decide (args.length ≤ i_laws_FnFull.ntmps) = true)
    (h : den PG (finQ i_laws_FnFull.res args Φ) [.code i_laws_FnFull.body] .norm (st i_laws_FnFull.ntmps (pairs 0 (entry 0 args).1) (entry 0 args).2)) : ∃ res outs, Ret PG f_laws_FnFull args res outs ∧ Φ res outs :=
  (comesP_of hl h).elim fun res h => h.elim fun outs h => ⟨res, outs, r_laws_FnFull ok h.1, h.2⟩

def i_spec_MakeBook : IFn := ⟨21, [.cell true 1 2],
 .seq (.reg [⟨some 2, none, .alloc [.z 11]⟩]) <|
 .seq (.reg [⟨some 5, none, .mov (.t 0)⟩,
   ⟨some 6, none, .call (.f f_spec_l01New) [.t 5] false false⟩,
   ⟨some 3, none, .mov (.t 6)⟩]) <|
 .seq (.reg [⟨some 7, none, .mov (.t 3)⟩,
   ⟨some 8, none, .call (.f f_spec_l12Draw) [.t 7] true false⟩,
   ⟨some 4, none, .alloc [.z 11]⟩,
   ⟨none, none, .store 1 (.t 4) (.t 8)⟩]) <|
 .seq (.seq (.reg [⟨some 9, none, .faddr 0 (.t 4)⟩,
    ⟨some 10, none, .load false 1 (.t 9)⟩,
    ⟨some 11, none, .len false (.t 10)⟩,
    ⟨some 12, none, .bin .eql (.t 11) (.c (.int .i64 0))⟩]) <|
  .ite (.t 12) (
   .draw [⟨some 13, none, .faddr 0 (.t 4)⟩,
    ⟨some 14, none, .load false 1 (.t 13)⟩,
    ⟨some 15, none, .mov (.t 3)⟩,
    ⟨some 16, none, .call (.f f_spec_l09Draw) [.t 15, .c (.str [49, 56])] true false⟩,
    ⟨some 17, none, .bslice 11 1 (.agg [.str [], .int .i64 0, .int .i64 0, .int .i64 0, .int .i64 0, .z 3, .int .i64 0, .int .i64 0, .z 1, .z 1, .z 3]) [(0, .t 16)]⟩,
    ⟨some 18, none, .app 11 160 (.t 14) (.t 17)⟩,
    ⟨some 19, none, .faddr 0 (.t 4)⟩,
    ⟨none, none, .store 1 (.t 19) (.t 18)⟩] [(0, 2), (1, 2), (0, 3), (1, 3), (0, 4), (1, 4)]) (
   .skip)) <|
 .seq (.reg [⟨some 20, none, .load true 1 (.t 4)⟩,
   ⟨none, none, .store 1 (.t 2) (.t 20)⟩]) <|
 .ret⟩
theorem r_spec_MakeBook {args : List A} {res : R} {outs : List (List O)} (ok : okArgs args = true) (h : Comes PG i_spec_MakeBook args res outs) : Ret PG f_spec_MakeBook args res outs :=
  ret_of hmix Tryz.func4 (by kernel_rfl) ok h
theorem p_spec_MakeBook {args : List A} {Φ : R → List (List O) → Prop} (ok : okArgs args = true) (hl : decide (args.length ≤ i_spec_MakeBook.ntmps) = true)
    (h : den PG (finQ i_spec_MakeBook.res args Φ) [.code i_spec_MakeBook.body] .norm (st i_spec_MakeBook.ntmps (pairs 0 (entry 0 args).1) (entry 0 args).2)) : ∃ res outs, Ret PG f_spec_MakeBook args res outs ∧ Φ res outs :=
  (comesP_of hl h).elim fun res h => h.elim fun outs h => ⟨res, outs, r_spec_MakeBook ok h.1, h.2⟩

def i_spec_MakeReq : IFn := ⟨32, [.cell true 8 4],
 .seq (.reg [⟨some 3, none, .box 1 (.t 1)⟩,
   ⟨some 4, none, .alloc [.int .i64 0, .str [], .str [], .str [], .str [], .str [], .int .i64 0, .int .i64 0]⟩]) <|
 .seq (.reg [⟨some 7, none, .mov (.t 0)⟩,
   ⟨some 8, none, .call (.f f_spec_l01New) [.t 7] false false⟩,
   ⟨some 5, none, .mov (.t 8)⟩]) <|
 .seq (.reg [⟨some 9, none, .mov (.t 5)⟩,
   ⟨some 10, none, .mov (.t 5)⟩,
   ⟨some 11, none, .nilc (.t 10)⟩,
   ⟨some 12, none, .faddr 2 (.t 11)⟩,
   ⟨some 13, none, .load false 1 (.t 12)⟩,
   ⟨some 14, none, .bin .add (.t 13) (.c (.int .i64 17))⟩,
   ⟨some 15, none, .nilc (.t 9)⟩,
   ⟨some 16, none, .faddr 2 (.t 15)⟩,
   ⟨none, none, .store 1 (.t 16) (.t 14)⟩]) <|
 .seq (.reg [⟨some 17, none, .mov (.t 5)⟩,
   ⟨some 18, none, .load true 1 (.t 3)⟩,
   ⟨some 19, none, .call (.f f_spec_l12Req) [.t 17, .t 18] true false⟩,
   ⟨some 6, none, .alloc [.int .i64 0, .str [], .str [], .str [], .str [], .str [], .int .i64 0, .int .i64 0]⟩,
   ⟨none, none, .store 8 (.t 6) (.t 19)⟩]) <|
 .seq (.draw [⟨some 20, none, .faddr 0 (.t 3)⟩,
   ⟨some 21, none, .load false 1 (.t 20)⟩,
   ⟨some 22, none, .mov (.t 5)⟩,
   ⟨some 23, none, .faddr 0 (.t 3)⟩,
   ⟨some 24, none, .load false 1 (.t 23)⟩,
   ⟨some 25, none, .len false (.t 24)⟩,
   ⟨some 26, none, .call (.f f_spec_l01Below) [.t 22, .t 25] true false⟩,
   ⟨some 27, none, .iaddr 11 (.t 21) (.t 26)⟩,
   ⟨some 28, none, .faddr 0 (.t 27)⟩,
   ⟨some 29, none, .load false 1 (.t 28)⟩,
   ⟨some 30, none, .faddr 1 (.t 6)⟩,
   ⟨none, none, .store 1 (.t 30) (.t 29)⟩] [(0, 2), (1, 2), (0, 3), (1, 3), (2, 3), (0, 4), (1, 4), (2, 4), (0, 5), (1, 5), (2, 5), (0, 6), (1, 6)]) <|
 .seq (.reg [⟨some 31, none, .load true 8 (.t 6)⟩,
   ⟨none, none, .store 8 (.t 4) (.t 31)⟩]) <|
 .ret⟩
theorem r_spec_MakeReq {args : List A} {res : R} {outs : List (List O)} (ok : okArgs args = true) (h : Comes PG i_spec_MakeReq args res outs) : Ret PG f_spec_MakeReq args res outs :=
  ret_of hmix Tryz.func5 (by kernel_rfl) ok h
theorem p_spec_MakeReq {args : List A} {Φ : R → List (List O) → Prop} (ok : okArgs args = true) (hl : decide (args.length ≤ i_spec_MakeReq.ntmps) = true)
    (h : den PG (finQ i_spec_MakeReq.res args Φ) [.code i_spec_MakeReq.body] .norm (st i_spec_MakeReq.ntmps (pairs 0 (entry 0 args).1) (entry 0 args).2)) : ∃ res outs, Ret PG f_spec_MakeReq args res outs ∧ Φ res outs :=
  (comesP_of hl h).elim fun res h => h.elim fun outs h => ⟨res, outs, r_spec_MakeReq ok h.1, h.2⟩

def i_impl_BookAt : IFn := ⟨9, [.t 4],
 .seq (.reg [⟨some 2, none, .box 1 (.t 0)⟩,
   ⟨some 3, none, .box 1 (.t 1)⟩,
   ⟨some 4, none, .mov (.c (.int .i64 0))⟩]) <|
 .seq (.reg [⟨some 5, none, .faddr 0 (.t 2)⟩,
   ⟨some 6, none, .load false 1 (.t 5)⟩,
   ⟨some 7, none, .fn f_impl_BookAt_1 [.t 3]⟩,
   ⟨some 8, none, .call (.f f_slices_IndexFunc_impl_Acct_impl_Acct) [.t 6, .t 7] false false⟩,
   ⟨some 4, none, .mov (.t 8)⟩]) <|
 .ret⟩
theorem r_impl_BookAt {args : List A} {res : R} {outs : List (List O)} (ok : okArgs args = true) (h : Comes PG i_impl_BookAt args res outs) : Ret PG f_impl_BookAt args res outs :=
  ret_of hmix Tryz.func6 (by kernel_rfl) ok h
theorem p_impl_BookAt {args : List A} {Φ : R → List (List O) → Prop} (ok : okArgs args = true) (hl : decide (args.length ≤ i_impl_BookAt.ntmps) = true)
    (h : den PG (finQ i_impl_BookAt.res args Φ) [.code i_impl_BookAt.body] .norm (st i_impl_BookAt.ntmps (pairs 0 (entry 0 args).1) (entry 0 args).2)) : ∃ res outs, Ret PG f_impl_BookAt args res outs ∧ Φ res outs :=
  (comesP_of hl h).elim fun res h => h.elim fun outs h => ⟨res, outs, r_impl_BookAt ok h.1, h.2⟩

def i_impl_ReqMsg : IFn := ⟨74, [.cell true 2 2, .t 3],
 .seq (.reg [⟨some 1, none, .box 8 (.t 0)⟩,
   ⟨some 2, none, .alloc [.str [], .z 2]⟩,
   ⟨some 3, none, .mov (.c (.bool false))⟩]) <|
 .seq (.seq (.reg [⟨some 7, none, .load true 8 (.t 1)⟩,
    ⟨some 8, none, .call (.f f_impl_ReqOk) [.t 7] false false⟩,
    ⟨some 9, none, .un .not (.t 8)⟩]) <|
  .ite (.t 9) (
   .seq (.reg [⟨some 10, none, .build [.str [], .z 2] []⟩,
     ⟨none, none, .store 2 (.t 2) (.t 10)⟩,
     ⟨some 3, none, .mov (.c (.bool false))⟩]) <|
   .ret) (
   .skip)) <|
 .seq (.reg [⟨some 11, none, .faddr 5 (.t 1)⟩,
   ⟨some 12, none, .load false 1 (.t 11)⟩,
   ⟨some 13, none, .build [.str [], .z 2] [(0, 1, .t 12)]⟩,
   ⟨some 4, none, .alloc [.str [], .z 2]⟩,
   ⟨none, none, .store 2 (.t 4) (.t 13)⟩]) <|
 .seq (.seq (.draw [⟨some 14, none, .faddr 1 (.t 1)⟩,
    ⟨some 15, none, .load false 1 (.t 14)⟩,
    ⟨some 16, none, .build [.int .i64 0, .str []] [(0, 1, .c (.int .i64 2)), (1, 1, .t 15)]⟩,
    ⟨some 17, none, .faddr 0 (.t 1)⟩,
    ⟨some 18, none, .load false 1 (.t 17)⟩,
    ⟨some 19, none, .call (.f f_impl_OpCode) [.t 18] false false⟩,
    ⟨some 20, none, .bin .add (.t 19) (.c (.str [48, 48, 48, 48]))⟩,
    ⟨some 21, none, .build [.int .i64 0, .str []] [(0, 1, .c (.int .i64 3)), (1, 1, .t 20)]⟩,
    ⟨some 22, none, .faddr 6 (.t 1)⟩,
    ⟨some 23, none, .load false 1 (.t 22)⟩,
    ⟨some 24, none, .call (.f f_impl_Wide) [.t 23, .c (.int .i64 12)] false false⟩,
    ⟨some 25, none, .build [.int .i64 0, .str []] [(0, 1, .c (.int .i64 4)), (1, 1, .t 24)]⟩,
    ⟨some 26, none, .faddr 4 (.t 1)⟩,
    ⟨some 27, none, .load false 1 (.t 26)⟩,
    ⟨some 28, none, .build [.int .i64 0, .str []] [(0, 1, .c (.int .i64 11)), (1, 1, .t 27)]⟩,
    ⟨some 29, none, .faddr 7 (.t 1)⟩,
    ⟨some 30, none, .load false 1 (.t 29)⟩,
    ⟨some 31, none, .call (.f f_impl_Wide) [.t 30, .c (.int .i64 4)] false false⟩,
    ⟨some 32, none, .build [.int .i64 0, .str []] [(0, 1, .c (.int .i64 14)), (1, 1, .t 31)]⟩,
    ⟨some 33, none, .faddr 3 (.t 1)⟩,
    ⟨some 34, none, .load false 1 (.t 33)⟩,
    ⟨some 35, none, .call (.f f_impl_FieldFit) [.c (.int .i64 38), .t 34] false false⟩,
    ⟨some 36, none, .build [.int .i64 0, .str []] [(0, 1, .c (.int .i64 38)), (1, 1, .t 35)]⟩,
    ⟨some 37, none, .faddr 2 (.t 1)⟩,
    ⟨some 38, none, .load false 1 (.t 37)⟩,
    ⟨some 39, none, .build [.int .i64 0, .str []] [(0, 1, .c (.int .i64 103)), (1, 1, .t 38)]⟩,
    ⟨some 40, none, .bslice 2 7 (.agg [.int .i64 0, .str []]) [(0, .t 16), (1, .t 21), (2, .t 25), (3, .t 28), (4, .t 32), (5, .t 36), (6, .t 39)]⟩,
    ⟨some 41, none, .len false (.t 40)⟩,
    ⟨some 42, none, .mov (.c (.int .i64 0))⟩] [(0, 3), (1, 3), (2, 3), (0, 4), (1, 4), (2, 4), (0, 5), (1, 5), (2, 5), (0, 6), (1, 6), (2, 6), (0, 7), (1, 7), (2, 7), (0, 8), (1, 8), (2, 8), (3, 8), (4, 8), (5, 8), (6, 8), (7, 8), (0, 9), (1, 9), (2, 9), (3, 9), (4, 9), (5, 9), (6, 9), (7, 9), (0, 10), (1, 10), (2, 10), (6, 10), (7, 10), (0, 11), (1, 11), (2, 11), (6, 11), (7, 11), (0, 12), (1, 12), (2, 12), (3, 12), (4, 12), (5, 12), (6, 12), (7, 12), (8, 12), (9, 12), (10, 12), (11, 12), (0, 13), (1, 13), (2, 13), (3, 13), (4, 13), (5, 13), (6, 13), (7, 13), (8, 13), (9, 13), (10, 13), (11, 13), (0, 14), (1, 14), (2, 14), (3, 14), (4, 14), (5, 14), (6, 14), (7, 14), (8, 14), (9, 14), (10, 14), (11, 14), (0, 15), (1, 15), (2, 15), (3, 15), (4, 15), (5, 15), (6, 15), (7, 15), (8, 15), (9, 15), (10, 15), (11, 15), (12, 15), (13, 15), (14, 15), (0, 16), (1, 16), (2, 16), (3, 16), (4, 16), (5, 16), (6, 16), (7, 16), (8, 16), (9, 16), (10, 16), (11, 16), (12, 16), (13, 16), (14, 16), (0, 17), (1, 17), (2, 17), (6, 17), (7, 17), (11, 17), (12, 17), (13, 17), (14, 17), (0, 18), (1, 18), (2, 18), (6, 18), (7, 18), (11, 18), (12, 18), (13, 18), (14, 18), (0, 19), (1, 19), (2, 19), (3, 19), (4, 19), (5, 19), (6, 19), (7, 19), (8, 19), (9, 19), (10, 19), (11, 19), (12, 19), (13, 19), (14, 19), (15, 19), (16, 19), (17, 19), (18, 19), (0, 20), (1, 20), (2, 20), (3, 20), (4, 20), (5, 20), (6, 20), (7, 20), (8, 20), (9, 20), (10, 20), (11, 20), (12, 20), (13, 20), (14, 20), (15, 20), (16, 20), (17, 20), (18, 20), (0, 21), (1, 21), (2, 21), (6, 21), (7, 21), (11, 21), (12, 21), (13, 21), (14, 21), (18, 21), (0, 22), (1, 22), (2, 22), (6, 22), (7, 22), (11, 22), (12, 22), (13, 22), (14, 22), (18, 22), (0, 23), (1, 23), (2, 23), (3, 23), (4, 23), (5, 23), (6, 23), (7, 23), (8, 23), (9, 23), (10, 23), (11, 23), (12, 23), (13, 23), (14, 23), (15, 23), (16, 23), (17, 23), (18, 23), (19, 23), (20, 23), (21, 23), (22, 23), (0, 24), (1, 24), (2, 24), (3, 24), (4, 24), (5, 24), (6, 24), (7, 24), (8, 24), (9, 24), (10, 24), (11, 24), (12, 24), (13, 24), (14, 24), (15, 24), (16, 24), (17, 24), (18, 24), (19, 24), (20, 24), (21, 24), (22, 24), (0, 25), (1, 25), (2, 25), (3, 25), (4, 25), (5, 25), (6, 25), (7, 25), (8, 25), (9, 25), (10, 25), (11, 25), (12, 25), (13, 25), (14, 25), (15, 25), (16, 25), (17, 25), (18, 25), (19, 25), (20, 25), (21, 25), (22, 25), (0, 28), (1, 28), (2, 28), (3, 28), (4, 28), (5, 28), (6, 28), (7, 28), (8, 28), (9, 28), (10, 28), (11, 28), (12, 28), (13, 28), (14, 28), (15, 28), (16, 28), (17, 28), (18, 28), (19, 28), (20, 28), (21, 28), (22, 28), (23, 28), (24, 28), (25, 28), (26, 28), (27, 28)]) <|
  .blk 0 (
   .loop [1, 2, 4, 40, 41, 42] [] (
    .seq (.reg [⟨some 43, none, .bin .lss (.t 42) (.t 41)⟩]) <|
    .seq (.ite (.t 43) (
      .skip) (
      .exit 0)) <|
    .seq (.blk 1 (
      .seq (.reg [⟨some 44, none, .iaddr 2 (.t 40) (.t 42)⟩,
        ⟨some 45, none, .load true 2 (.t 44)⟩,
        ⟨some 6, none, .alloc [.int .i64 0, .str []]⟩,
        ⟨none, none, .store 2 (.t 6) (.t 45)⟩]) <|
      .seq (.reg [⟨some 46, none, .faddr 0 (.t 6)⟩,
        ⟨some 47, none, .load false 1 (.t 46)⟩,
        ⟨some 48, none, .bin .eql (.t 47) (.c (.int .i64 2))⟩,
        ⟨some 49, none, .mov (.t 48)⟩,
        ⟨some 50, some (49, false), .faddr 0 (.t 6)⟩,
        ⟨some 51, some (49, false), .load false 1 (.t 50)⟩,
        ⟨some 52, some (49, false), .bin .eql (.t 51) (.c (.int .i64 3))⟩,
        ⟨some 53, none, .pick (.t 49) (.c (.bool true)) (.t 52)⟩,
        ⟨some 54, none, .mov (.t 53)⟩,
        ⟨some 55, some (54, false), .faddr 0 (.t 6)⟩,
        ⟨some 56, some (54, false), .load false 1 (.t 55)⟩,
        ⟨some 57, some (54, false), .bin .eql (.t 56) (.c (.int .i64 11))⟩,
        ⟨some 58, none, .pick (.t 54) (.c (.bool true)) (.t 57)⟩,
        ⟨some 59, none, .mov (.t 58)⟩,
        ⟨some 60, some (59, false), .faddr 0 (.t 1)⟩,
        ⟨some 61, some (59, false), .load false 1 (.t 60)⟩,
        ⟨some 62, some (59, false), .faddr 0 (.t 6)⟩,
        ⟨some 63, some (59, false), .load false 1 (.t 62)⟩,
        ⟨some 64, some (59, false), .call (.f f_impl_uses) [.t 61, .t 63] false false⟩,
        ⟨some 65, none, .pick (.t 59) (.c (.bool true)) (.t 64)⟩]) <|
      .ite (.t 65) (
       .reg [⟨some 66, none, .faddr 1 (.t 4)⟩,
        ⟨some 67, none, .load false 1 (.t 66)⟩,
        ⟨some 68, none, .load true 2 (.t 6)⟩,
        ⟨some 69, none, .bslice 2 1 (.agg [.int .i64 0, .str []]) [(0, .t 68)]⟩,
        ⟨some 70, none, .app 2 24 (.t 67) (.t 69)⟩,
        ⟨some 71, none, .faddr 1 (.t 4)⟩,
        ⟨none, none, .store 1 (.t 71) (.t 70)⟩]) (
       .skip))) <|
    .reg [⟨some 72, none, .bin .add (.t 42) (.c (.int .i64 1))⟩,
     ⟨some 42, none, .mov (.t 72)⟩]))) <|
 .seq (.reg [⟨some 73, none, .load true 2 (.t 4)⟩,
   ⟨none, none, .store 2 (.t 2) (.t 73)⟩,
   ⟨some 3, none, .mov (.c (.bool true))⟩]) <|
 .ret⟩
theorem r_impl_ReqMsg {args : List A} {res : R} {outs : List (List O)} (ok : okArgs args = true) (h : Comes PG i_impl_ReqMsg args res outs) : Ret PG f_impl_ReqMsg args res outs :=
  ret_of hmix Tryz.func7 (by kernel_rfl) ok h
theorem p_impl_ReqMsg {args : List A} {Φ : R → List (List O) → Prop} (ok : okArgs args = true) (hl : decide (args.length ≤ i_impl_ReqMsg.ntmps) = true)
    (h : den PG (finQ i_impl_ReqMsg.res args Φ) [.code i_impl_ReqMsg.body] .norm (st i_impl_ReqMsg.ntmps (pairs 0 (entry 0 args).1) (entry 0 args).2)) : ∃ res outs, Ret PG f_impl_ReqMsg args res outs ∧ Φ res outs :=
  (comesP_of hl h).elim fun res h => h.elim fun outs h => ⟨res, outs, r_impl_ReqMsg ok h.1, h.2⟩

def i_impl_Encode : IFn := ⟨77, [.t 2, .t 3],
 .seq (.reg [⟨some 1, none, .box 2 (.t 0)⟩,
   ⟨some 2, none, .mov (.c (.z 1))⟩,
   ⟨some 3, none, .mov (.c (.bool false))⟩]) <|
 .seq (.seq (.reg [⟨some 13, none, .load true 2 (.t 1)⟩,
    ⟨some 14, none, .call (.f f_impl_MsgOk) [.t 13] false false⟩,
    ⟨some 15, none, .un .not (.t 14)⟩]) <|
  .ite (.t 15) (
   .seq (.reg [⟨some 2, none, .mov (.c (.z 1))⟩,
     ⟨some 3, none, .mov (.c (.bool false))⟩]) <|
   .ret) (
   .skip)) <|
 .seq (.reg [⟨some 16, none, .bslice 1 0 (.int .i64 0) []⟩,
   ⟨some 17, none, .bslice 1 0 (.int .i64 0) []⟩,
   ⟨some 18, none, .bslice 1 0 (.int .u8 0) []⟩,
   ⟨some 4, none, .mov (.t 16)⟩,
   ⟨some 5, none, .mov (.t 17)⟩,
   ⟨some 6, none, .mov (.t 18)⟩]) <|
 .seq (.seq (.reg [⟨some 19, none, .faddr 1 (.t 1)⟩,
    ⟨some 20, none, .load false 1 (.t 19)⟩,
    ⟨some 21, none, .len false (.t 20)⟩,
    ⟨some 22, none, .mov (.c (.int .i64 0))⟩]) <|
  .blk 0 (
   .loop [1, 4, 5, 6, 20, 21, 22] [] (
    .seq (.reg [⟨some 23, none, .bin .lss (.t 22) (.t 21)⟩]) <|
    .seq (.ite (.t 23) (
      .skip) (
      .exit 0)) <|
    .seq (.blk 1 (
      .seq (.reg [⟨some 24, none, .iaddr 2 (.t 20) (.t 22)⟩,
        ⟨some 25, none, .load true 2 (.t 24)⟩,
        ⟨some 8, none, .alloc [.int .i64 0, .str []]⟩,
        ⟨none, none, .store 2 (.t 8) (.t 25)⟩]) <|
      .seq (.seq (.reg [⟨some 26, none, .faddr 0 (.t 8)⟩,
         ⟨some 27, none, .load false 1 (.t 26)⟩,
         ⟨some 28, none, .bin .gtr (.t 27) (.c (.int .i64 64))⟩]) <|
       .ite (.t 28) (
        .reg [⟨some 29, none, .mov (.t 5)⟩,
         ⟨some 30, none, .faddr 0 (.t 8)⟩,
         ⟨some 31, none, .load false 1 (.t 30)⟩,
         ⟨some 32, none, .bin .sub (.t 31) (.c (.int .i64 64))⟩,
         ⟨some 33, none, .bslice 1 1 (.int .i64 0) [(0, .t 32)]⟩,
         ⟨some 34, none, .app 1 8 (.t 29) (.t 33)⟩,
         ⟨some 5, none, .mov (.t 34)⟩]) (
        .reg [⟨some 35, none, .mov (.t 4)⟩,
         ⟨some 36, none, .faddr 0 (.t 8)⟩,
         ⟨some 37, none, .load false 1 (.t 36)⟩,
         ⟨some 38, none, .bslice 1 1 (.int .i64 0) [(0, .t 37)]⟩,
         ⟨some 39, none, .app 1 8 (.t 35) (.t 38)⟩,
         ⟨some 4, none, .mov (.t 39)⟩])) <|
      .seq (.reg [⟨some 41, none, .faddr 0 (.t 8)⟩,
        ⟨some 42, none, .load false 1 (.t 41)⟩,
        ⟨some 43, none, .faddr 1 (.t 8)⟩,
        ⟨some 44, none, .load false 1 (.t 43)⟩,
        ⟨some 45, none, .call (.f f_impl_PutField) [.t 42, .t 44] true false⟩,
        ⟨some 40, none, .mov (.t 45)⟩,
        ⟨some 46, none, .extr (.t 40) 0⟩,
        ⟨some 47, none, .extr (.t 40) 1⟩,
        ⟨some 9, none, .mov (.t 46)⟩,
        ⟨some 10, none, .mov (.t 47)⟩]) <|
      .reg [⟨some 48, none, .mov (.t 6)⟩,
       ⟨some 49, none, .mov (.t 9)⟩,
       ⟨some 50, none, .app 1 1 (.t 48) (.t 49)⟩,
       ⟨some 6, none, .mov (.t 50)⟩])) <|
    .reg [⟨some 51, none, .bin .add (.t 22) (.c (.int .i64 1))⟩,
     ⟨some 22, none, .mov (.t 51)⟩]))) <|
 .seq (.reg [⟨some 53, none, .faddr 0 (.t 1)⟩,
   ⟨some 54, none, .load false 1 (.t 53)⟩,
   ⟨some 55, none, .call (.f f_impl_PutBcd) [.t 54] true false⟩,
   ⟨some 52, none, .mov (.t 55)⟩,
   ⟨some 56, none, .extr (.t 52) 0⟩,
   ⟨some 57, none, .extr (.t 52) 1⟩,
   ⟨some 11, none, .mov (.t 56)⟩,
   ⟨some 12, none, .mov (.t 57)⟩]) <|
 .seq (.seq (.reg [⟨some 58, none, .mov (.t 5)⟩,
    ⟨some 59, none, .len false (.t 58)⟩,
    ⟨some 60, none, .bin .gtr (.t 59) (.c (.int .i64 0))⟩]) <|
  .ite (.t 60) (
   .reg [⟨some 61, none, .mov (.t 11)⟩,
    ⟨some 62, none, .mov (.t 4)⟩,
    ⟨some 63, none, .bslice 1 1 (.int .i64 0) [(0, .c (.int .i64 1))]⟩,
    ⟨some 64, none, .app 1 8 (.t 62) (.t 63)⟩,
    ⟨some 65, none, .call (.f f_impl_PutBits) [.t 64] true false⟩,
    ⟨some 66, none, .app 1 1 (.t 61) (.t 65)⟩,
    ⟨some 67, none, .mov (.t 5)⟩,
    ⟨some 68, none, .call (.f f_impl_PutBits) [.t 67] true false⟩,
    ⟨some 69, none, .app 1 1 (.t 66) (.t 68)⟩,
    ⟨some 11, none, .mov (.t 69)⟩]) (
   .reg [⟨some 70, none, .mov (.t 11)⟩,
    ⟨some 71, none, .mov (.t 4)⟩,
    ⟨some 72, none, .call (.f f_impl_PutBits) [.t 71] true false⟩,
    ⟨some 73, none, .app 1 1 (.t 70) (.t 72)⟩,
    ⟨some 11, none, .mov (.t 73)⟩])) <|
 .seq (.reg [⟨some 74, none, .mov (.t 11)⟩,
   ⟨some 75, none, .mov (.t 6)⟩,
   ⟨some 76, none, .app 1 1 (.t 74) (.t 75)⟩,
   ⟨some 2, none, .mov (.t 76)⟩,
   ⟨some 3, none, .mov (.c (.bool true))⟩]) <|
 .ret⟩
theorem r_impl_Encode {args : List A} {res : R} {outs : List (List O)} (ok : okArgs args = true) (h : Comes PG i_impl_Encode args res outs) : Ret PG f_impl_Encode args res outs :=
  ret_of hmix Tryz.func8 (by kernel_rfl) ok h
theorem p_impl_Encode {args : List A} {Φ : R → List (List O) → Prop} (ok : okArgs args = true) (hl : decide (args.length ≤ i_impl_Encode.ntmps) = true)
    (h : den PG (finQ i_impl_Encode.res args Φ) [.code i_impl_Encode.body] .norm (st i_impl_Encode.ntmps (pairs 0 (entry 0 args).1) (entry 0 args).2)) : ∃ res outs, Ret PG f_impl_Encode args res outs ∧ Φ res outs :=
  (comesP_of hl h).elim fun res h => h.elim fun outs h => ⟨res, outs, r_impl_Encode ok h.1, h.2⟩

def i_impl_Handle : IFn := ⟨167, [.cell true 1 6, .t 7],
 .seq (.reg [⟨some 3, none, .box 1 (.t 0)⟩,
   ⟨some 6, none, .alloc [.z 11]⟩,
   ⟨some 7, none, .mov (.c (.z 1))⟩]) <|
 .seq (.reg [⟨some 28, none, .mov (.t 1)⟩,
   ⟨some 29, none, .call (.f f_impl_Parse) [.t 28] false false⟩,
   ⟨some 27, none, .mov (.t 29)⟩,
   ⟨some 30, none, .extr (.t 27) 0⟩,
   ⟨some 31, none, .extr (.t 27) 1⟩,
   ⟨some 8, none, .alloc [.str [], .z 2]⟩,
   ⟨none, none, .store 2 (.t 8) (.t 30)⟩,
   ⟨some 9, none, .mov (.t 31)⟩]) <|
 .seq (.seq (.reg [⟨some 32, none, .load true 1 (.t 3)⟩,
    ⟨some 33, none, .call (.f f_impl_BookOk) [.t 32] false false⟩,
    ⟨some 34, none, .un .not (.t 33)⟩,
    ⟨some 35, none, .mov (.t 34)⟩,
    ⟨some 36, some (35, false), .mov (.t 2)⟩,
    ⟨some 37, some (35, false), .call (.f f_impl_isTime) [.t 36] false false⟩,
    ⟨some 38, some (35, false), .un .not (.t 37)⟩,
    ⟨some 39, none, .pick (.t 35) (.c (.bool true)) (.t 38)⟩,
    ⟨some 40, none, .mov (.t 39)⟩,
    ⟨some 41, some (40, false), .mov (.t 9)⟩,
    ⟨some 42, some (40, false), .bin .eql (.t 41) (.c (.int .i64 1))⟩,
    ⟨some 43, none, .pick (.t 40) (.c (.bool true)) (.t 42)⟩]) <|
  .ite (.t 43) (
   .seq (.reg [⟨some 44, none, .load true 1 (.t 3)⟩,
     ⟨some 45, none, .call (.f f_impl_Book_copied) [.t 44] true false⟩,
     ⟨none, none, .store 1 (.t 6) (.t 45)⟩,
     ⟨some 7, none, .mov (.c (.z 1))⟩]) <|
   .ret) (
   .skip)) <|
 .seq (.reg [⟨some 47, none, .mov (.t 1)⟩,
   ⟨some 48, none, .call (.f f_impl_GetBcd) [.t 47, .c (.int .i64 0), .c (.int .i64 4)] false false⟩,
   ⟨some 46, none, .mov (.t 48)⟩,
   ⟨some 49, none, .extr (.t 46) 0⟩,
   ⟨some 50, none, .extr (.t 46) 1⟩,
   ⟨some 51, none, .extr (.t 46) 2⟩,
   ⟨some 10, none, .mov (.t 49)⟩,
   ⟨some 11, none, .mov (.t 50)⟩,
   ⟨some 12, none, .mov (.t 51)⟩]) <|
 .seq (.seq (.reg [⟨some 52, none, .mov (.t 10)⟩,
    ⟨some 53, none, .call (.f f_impl_ReplyMti) [.t 52] false false⟩,
    ⟨some 54, none, .bin .eql (.t 53) (.c (.str []))⟩]) <|
  .ite (.t 54) (
   .seq (.reg [⟨some 55, none, .load true 1 (.t 3)⟩,
     ⟨some 56, none, .call (.f f_impl_Book_copied) [.t 55] true false⟩,
     ⟨none, none, .store 1 (.t 6) (.t 56)⟩,
     ⟨some 7, none, .mov (.c (.z 1))⟩]) <|
   .ret) (
   .skip)) <|
 .seq (.seq (.reg [⟨some 57, none, .mov (.t 9)⟩,
    ⟨some 58, none, .bin .neq (.t 57) (.c (.int .i64 0))⟩]) <|
  .ite (.t 58) (
   .seq (.reg [⟨some 60, none, .mov (.t 10)⟩,
     ⟨some 61, none, .call (.f f_impl_Bare) [.t 60, .c (.int .i64 1)] false false⟩,
     ⟨some 59, none, .mov (.t 61)⟩,
     ⟨some 62, none, .extr (.t 59) 0⟩,
     ⟨some 63, none, .extr (.t 59) 1⟩,
     ⟨some 13, none, .alloc [.str [], .z 2]⟩,
     ⟨none, none, .store 2 (.t 13) (.t 62)⟩,
     ⟨some 14, none, .mov (.t 63)⟩]) <|
   .seq (.reg [⟨some 65, none, .load true 2 (.t 13)⟩,
     ⟨some 66, none, .call (.f f_impl_Encode) [.t 65] true false⟩,
     ⟨some 64, none, .mov (.t 66)⟩,
     ⟨some 67, none, .extr (.t 64) 0⟩,
     ⟨some 68, none, .extr (.t 64) 1⟩,
     ⟨some 15, none, .mov (.t 67)⟩,
     ⟨some 16, none, .mov (.t 68)⟩]) <|
   .seq (.reg [⟨some 69, none, .load true 1 (.t 3)⟩,
     ⟨some 70, none, .call (.f f_impl_Book_copied) [.t 69] true false⟩,
     ⟨some 71, none, .mov (.t 15)⟩,
     ⟨none, none, .store 1 (.t 6) (.t 70)⟩,
     ⟨some 7, none, .mov (.t 71)⟩]) <|
   .ret) (
   .skip)) <|
 .seq (.reg [⟨some 73, none, .load true 2 (.t 8)⟩,
   ⟨some 74, none, .call (.f f_impl_ReqOf) [.t 73] false false⟩,
   ⟨some 72, none, .mov (.t 74)⟩,
   ⟨some 75, none, .extr (.t 72) 0⟩,
   ⟨some 76, none, .extr (.t 72) 1⟩,
   ⟨some 17, none, .alloc [.int .i64 0, .str [], .str [], .str [], .str [], .str [], .int .i64 0, .int .i64 0]⟩,
   ⟨none, none, .store 8 (.t 17) (.t 75)⟩,
   ⟨some 18, none, .mov (.t 76)⟩]) <|
 .seq (.seq (.reg [⟨some 77, none, .mov (.t 18)⟩,
    ⟨some 78, none, .bin .neq (.t 77) (.c (.int .i64 0))⟩]) <|
  .ite (.t 78) (
   .seq (.draw [⟨some 79, none, .load true 1 (.t 3)⟩,
     ⟨some 80, none, .call (.f f_impl_Book_copied) [.t 79] true false⟩,
     ⟨some 81, none, .load true 2 (.t 8)⟩,
     ⟨some 82, none, .mov (.t 18)⟩,
     ⟨some 83, none, .call (.f f_impl_replied) [.t 81, .t 82, .c (.str []), .c (.str [])] true false⟩,
     ⟨none, none, .store 1 (.t 6) (.t 80)⟩,
     ⟨some 7, none, .mov (.t 83)⟩] [(0, 2), (1, 2), (0, 3), (1, 3), (2, 3)]) <|
   .ret) (
   .skip)) <|
 .seq (.reg [⟨some 84, none, .load true 1 (.t 3)⟩,
   ⟨some 85, none, .faddr 1 (.t 17)⟩,
   ⟨some 86, none, .load false 1 (.t 85)⟩,
   ⟨some 87, none, .call (.f f_impl_BookAt) [.t 84, .t 86] false false⟩,
   ⟨some 19, none, .mov (.t 87)⟩]) <|
 .seq (.seq (.reg [⟨some 88, none, .mov (.t 19)⟩,
    ⟨some 89, none, .bin .lss (.t 88) (.c (.int .i64 0))⟩]) <|
  .ite (.t 89) (
   .seq (.draw [⟨some 90, none, .load true 1 (.t 3)⟩,
     ⟨some 91, none, .call (.f f_impl_Book_copied) [.t 90] true false⟩,
     ⟨some 92, none, .load true 2 (.t 8)⟩,
     ⟨some 93, none, .call (.f f_impl_replied) [.t 92, .c (.int .i64 3), .c (.str []), .c (.str [])] true false⟩,
     ⟨none, none, .store 1 (.t 6) (.t 91)⟩,
     ⟨some 7, none, .mov (.t 93)⟩] [(0, 2), (1, 2)]) <|
   .ret) (
   .skip)) <|
 .seq (.seq (.draw [⟨some 95, none, .faddr 0 (.t 3)⟩,
    ⟨some 96, none, .load false 1 (.t 95)⟩,
    ⟨some 97, none, .mov (.t 19)⟩,
    ⟨some 98, none, .iaddr 11 (.t 96) (.t 97)⟩,
    ⟨some 99, none, .faddr 10 (.t 98)⟩,
    ⟨some 100, none, .load false 1 (.t 99)⟩,
    ⟨some 101, none, .faddr 4 (.t 17)⟩,
    ⟨some 102, none, .load false 1 (.t 101)⟩,
    ⟨some 103, none, .faddr 5 (.t 17)⟩,
    ⟨some 104, none, .load false 1 (.t 103)⟩,
    ⟨some 105, none, .call (.f f_impl_SlotOf) [.t 100, .t 102, .t 104] true false⟩,
    ⟨some 94, none, .mov (.t 105)⟩,
    ⟨some 106, none, .extr (.t 94) 0⟩,
    ⟨some 107, none, .extr (.t 94) 1⟩,
    ⟨some 20, none, .mov (.t 106)⟩,
    ⟨some 21, none, .mov (.t 107)⟩] [(0, 2), (1, 2), (0, 6), (1, 6), (2, 6), (3, 6), (4, 6), (5, 6), (0, 7), (1, 7), (2, 7), (3, 7), (4, 7), (5, 7), (0, 8), (1, 8), (2, 8), (3, 8), (4, 8), (5, 8), (6, 8), (7, 8), (0, 9), (1, 9), (2, 9), (3, 9), (4, 9), (5, 9), (6, 9), (7, 9), (12, 13), (13, 14)]) <|
  .seq (.reg [⟨some 108, none, .mov (.t 21)⟩]) <|
  .ite (.t 108) (
   .seq (.reg [⟨some 109, none, .load true 1 (.t 3)⟩,
     ⟨some 110, none, .call (.f f_impl_Book_copied) [.t 109] true false⟩,
     ⟨some 111, none, .mov (.t 20)⟩,
     ⟨none, none, .store 1 (.t 6) (.t 110)⟩,
     ⟨some 7, none, .mov (.t 111)⟩]) <|
   .ret) (
   .skip)) <|
 .seq (.seq (.reg [⟨some 112, none, .faddr 0 (.t 3)⟩,
    ⟨some 113, none, .load false 1 (.t 112)⟩,
    ⟨some 114, none, .mov (.t 19)⟩,
    ⟨some 115, none, .iaddr 11 (.t 113) (.t 114)⟩,
    ⟨some 116, none, .faddr 10 (.t 115)⟩,
    ⟨some 117, none, .load false 1 (.t 116)⟩,
    ⟨some 118, none, .len false (.t 117)⟩,
    ⟨some 119, none, .bin .eql (.t 118) (.c (.int .i64 6))⟩]) <|
  .ite (.t 119) (
   .seq (.draw [⟨some 120, none, .load true 1 (.t 3)⟩,
     ⟨some 121, none, .call (.f f_impl_Book_copied) [.t 120] true false⟩,
     ⟨some 122, none, .load true 2 (.t 8)⟩,
     ⟨some 123, none, .call (.f f_impl_replied) [.t 122, .c (.int .i64 10), .c (.str []), .c (.str [])] true false⟩,
     ⟨none, none, .store 1 (.t 6) (.t 121)⟩,
     ⟨some 7, none, .mov (.t 123)⟩] [(0, 2), (1, 2)]) <|
   .ret) (
   .skip)) <|
 .seq (.reg [⟨some 125, none, .load true 1 (.t 3)⟩,
   ⟨some 126, none, .load true 8 (.t 17)⟩,
   ⟨some 127, none, .mov (.t 2)⟩,
   ⟨some 128, none, .call (.f f_impl_Deal) [.t 125, .t 126, .t 127] true false⟩,
   ⟨some 124, none, .mov (.t 128)⟩,
   ⟨some 129, none, .extr (.t 124) 0⟩,
   ⟨some 130, none, .extr (.t 124) 1⟩,
   ⟨some 131, none, .extr (.t 124) 2⟩,
   ⟨some 22, none, .alloc [.z 11]⟩,
   ⟨none, none, .store 1 (.t 22) (.t 129)⟩,
   ⟨some 18, none, .mov (.t 130)⟩,
   ⟨some 23, none, .mov (.t 131)⟩]) <|
 .seq (.seq (.reg [⟨some 132, none, .mov (.t 18)⟩,
    ⟨some 133, none, .bin .neq (.t 132) (.c (.int .i64 0))⟩]) <|
  .ite (.t 133) (
   .reg [⟨some 134, none, .load true 1 (.t 3)⟩,
    ⟨some 135, none, .call (.f f_impl_Book_copied) [.t 134] true false⟩,
    ⟨none, none, .store 1 (.t 22) (.t 135)⟩]) (
   .skip)) <|
 .seq (.reg [⟨some 136, none, .load true 2 (.t 8)⟩,
   ⟨some 137, none, .mov (.t 18)⟩,
   ⟨some 138, none, .faddr 3 (.t 17)⟩,
   ⟨some 139, none, .load false 1 (.t 138)⟩,
   ⟨some 140, none, .mov (.t 23)⟩,
   ⟨some 141, none, .call (.f f_impl_replied) [.t 136, .t 137, .t 139, .t 140] true false⟩,
   ⟨some 24, none, .mov (.t 141)⟩]) <|
 .seq (.seq (.draw [⟨some 143, none, .faddr 0 (.t 22)⟩,
    ⟨some 144, none, .load false 1 (.t 143)⟩,
    ⟨some 145, none, .mov (.t 19)⟩,
    ⟨some 146, none, .iaddr 11 (.t 144) (.t 145)⟩,
    ⟨some 147, none, .faddr 10 (.t 146)⟩,
    ⟨some 148, none, .load false 1 (.t 147)⟩,
    ⟨some 149, none, .faddr 4 (.t 17)⟩,
    ⟨some 150, none, .load false 1 (.t 149)⟩,
    ⟨some 151, none, .faddr 5 (.t 17)⟩,
    ⟨some 152, none, .load false 1 (.t 151)⟩,
    ⟨some 153, none, .mov (.t 24)⟩,
    ⟨some 154, none, .build [.str [], .str [], .z 1] [(0, 1, .t 150), (1, 1, .t 152), (2, 1, .t 153)]⟩,
    ⟨some 155, none, .call (.f f_impl_SlotPut) [.t 148, .t 154] false false⟩,
    ⟨some 142, none, .mov (.t 155)⟩,
    ⟨some 156, none, .extr (.t 142) 0⟩,
    ⟨some 157, none, .extr (.t 142) 1⟩,
    ⟨some 25, none, .mov (.t 156)⟩,
    ⟨some 26, none, .mov (.t 157)⟩] [(0, 2), (1, 2), (0, 6), (1, 6), (2, 6), (3, 6), (4, 6), (5, 6), (0, 7), (1, 7), (2, 7), (3, 7), (4, 7), (5, 7), (0, 8), (1, 8), (2, 8), (3, 8), (4, 8), (5, 8), (6, 8), (7, 8), (0, 9), (1, 9), (2, 9), (3, 9), (4, 9), (5, 9), (6, 9), (7, 9), (0, 10), (1, 10), (2, 10), (3, 10), (4, 10), (5, 10), (6, 10), (7, 10), (8, 10), (9, 10), (0, 11), (1, 11), (2, 11), (3, 11), (4, 11), (5, 11), (14, 15), (15, 16)]) <|
  .seq (.reg [⟨some 158, none, .mov (.t 26)⟩]) <|
  .ite (.t 158) (
   .reg [⟨some 159, none, .faddr 0 (.t 22)⟩,
    ⟨some 160, none, .load false 1 (.t 159)⟩,
    ⟨some 161, none, .mov (.t 19)⟩,
    ⟨some 162, none, .mov (.t 25)⟩,
    ⟨some 163, none, .iaddr 11 (.t 160) (.t 161)⟩,
    ⟨some 164, none, .faddr 10 (.t 163)⟩,
    ⟨none, none, .store 1 (.t 164) (.t 162)⟩]) (
   .skip)) <|
 .seq (.reg [⟨some 165, none, .load true 1 (.t 22)⟩,
   ⟨some 166, none, .mov (.t 24)⟩,
   ⟨none, none, .store 1 (.t 6) (.t 165)⟩,
   ⟨some 7, none, .mov (.t 166)⟩]) <|
 .ret⟩
theorem r_impl_Handle {args : List A} {res : R} {outs : List (List O)} (ok : okArgs args = true) (h : Comes PG i_impl_Handle args res outs) : Ret PG f_impl_Handle args res outs :=
  ret_of hmix Tryz.func9 (by kernel_rfl) ok h
theorem p_impl_Handle {args : List A} {Φ : R → List (List O) → Prop} (ok : okArgs args = true) (hl : decide (args.length ≤ i_impl_Handle.ntmps) = true)
    (h : den PG (finQ i_impl_Handle.res args Φ) [.code i_impl_Handle.body] .norm (st i_impl_Handle.ntmps (pairs 0 (entry 0 args).1) (entry 0 args).2)) : ∃ res outs, Ret PG f_impl_Handle args res outs ∧ Φ res outs :=
  (comesP_of hl h).elim fun res h => h.elim fun outs h => ⟨res, outs, r_impl_Handle ok h.1, h.2⟩

def i_spec_MakeNum : IFn := ⟨19, [.t 4],
 .seq (.reg [⟨some 4, none, .mov (.c (.int .i64 0))⟩]) <|
 .seq (.reg [⟨some 6, none, .mov (.t 0)⟩,
   ⟨some 7, none, .call (.f f_spec_l01New) [.t 6] false false⟩,
   ⟨some 5, none, .mov (.t 7)⟩]) <|
 .seq (.reg [⟨some 8, none, .mov (.t 5)⟩,
   ⟨some 9, none, .mov (.t 5)⟩,
   ⟨some 10, none, .nilc (.t 9)⟩,
   ⟨some 11, none, .faddr 2 (.t 10)⟩,
   ⟨some 12, none, .load false 1 (.t 11)⟩,
   ⟨some 13, none, .bin .add (.t 12) (.c (.int .i64 777))⟩,
   ⟨some 14, none, .nilc (.t 8)⟩,
   ⟨some 15, none, .faddr 2 (.t 14)⟩,
   ⟨none, none, .store 1 (.t 15) (.t 13)⟩]) <|
 .seq (.reg [⟨some 16, none, .mov (.t 5)⟩,
   ⟨some 17, none, .mov (.t 1)⟩,
   ⟨some 18, none, .call (.f f_spec_l01Below) [.t 16, .t 17] true false⟩,
   ⟨some 4, none, .mov (.t 18)⟩]) <|
 .ret⟩
theorem r_spec_MakeNum {args : List A} {res : R} {outs : List (List O)} (ok : okArgs args = true) (h : Comes PG i_spec_MakeNum args res outs) : Ret PG f_spec_MakeNum args res outs :=
  ret_of hmix Tryz.func10 (by kernel_rfl) ok h
theorem p_spec_MakeNum {args : List A} {Φ : R → List (List O) → Prop} (ok : okArgs args = true) (hl : decide (args.length ≤ i_spec_MakeNum.ntmps) = true)
    (h : den PG (finQ i_spec_MakeNum.res args Φ) [.code i_spec_MakeNum.body] .norm (st i_spec_MakeNum.ntmps (pairs 0 (entry 0 args).1) (entry 0 args).2)) : ∃ res outs, Ret PG f_spec_MakeNum args res outs ∧ Φ res outs :=
  (comesP_of hl h).elim fun res h => h.elim fun outs h => ⟨res, outs, r_spec_MakeNum ok h.1, h.2⟩

def i_impl_ReplyCode : IFn := ⟨28, [.t 2, .t 3],
 .seq (.reg [⟨some 2, none, .mov (.c (.int .i64 0))⟩,
   ⟨some 3, none, .mov (.c (.bool false))⟩]) <|
 .seq (.reg [⟨some 9, none, .mov (.t 0)⟩,
   ⟨some 10, none, .call (.f f_impl_Parse) [.t 9] false false⟩,
   ⟨some 8, none, .mov (.t 10)⟩,
   ⟨some 11, none, .extr (.t 8) 0⟩,
   ⟨some 12, none, .extr (.t 8) 1⟩,
   ⟨some 4, none, .alloc [.str [], .z 2]⟩,
   ⟨none, none, .store 2 (.t 4) (.t 11)⟩,
   ⟨some 5, none, .mov (.t 12)⟩]) <|
 .seq (.reg [⟨some 14, none, .load true 2 (.t 4)⟩,
   ⟨some 15, none, .call (.f f_impl_FieldOf) [.t 14, .c (.int .i64 39)] false false⟩,
   ⟨some 13, none, .mov (.t 15)⟩,
   ⟨some 16, none, .extr (.t 13) 0⟩,
   ⟨some 17, none, .extr (.t 13) 1⟩,
   ⟨some 6, none, .mov (.t 16)⟩,
   ⟨some 7, none, .mov (.t 17)⟩]) <|
 .seq (.seq (.reg [⟨some 18, none, .mov (.t 5)⟩,
    ⟨some 19, none, .bin .neq (.t 18) (.c (.int .i64 0))⟩,
    ⟨some 20, none, .mov (.t 19)⟩,
    ⟨some 21, some (20, false), .mov (.t 7)⟩,
    ⟨some 22, some (20, false), .un .not (.t 21)⟩,
    ⟨some 23, none, .pick (.t 20) (.c (.bool true)) (.t 22)⟩]) <|
  .ite (.t 23) (
   .seq (.reg [⟨some 2, none, .mov (.c (.int .i64 0))⟩,
     ⟨some 3, none, .mov (.c (.bool false))⟩]) <|
   .ret) (
   .skip)) <|
 .seq (.reg [⟨some 24, none, .mov (.t 6)⟩,
   ⟨some 25, none, .call (.f f_impl_TextRs) [.t 24] false false⟩,
   ⟨some 26, none, .extr (.t 25) 0⟩,
   ⟨some 27, none, .extr (.t 25) 1⟩,
   ⟨some 2, none, .mov (.t 26)⟩,
   ⟨some 3, none, .mov (.t 27)⟩]) <|
 .ret⟩
theorem r_impl_ReplyCode {args : List A} {res : R} {outs : List (List O)} (ok : okArgs args = true) (h : Comes PG i_impl_ReplyCode args res outs) : Ret PG f_impl_ReplyCode args res outs :=
  ret_of hmix Tryz.func11 (by kernel_rfl) ok h
theorem p_impl_ReplyCode {args : List A} {Φ : R → List (List O) → Prop} (ok : okArgs args = true) (hl : decide (args.length ≤ i_impl_ReplyCode.ntmps) = true)
    (h : den PG (finQ i_impl_ReplyCode.res args Φ) [.code i_impl_ReplyCode.body] .norm (st i_impl_ReplyCode.ntmps (pairs 0 (entry 0 args).1) (entry 0 args).2)) : ∃ res outs, Ret PG f_impl_ReplyCode args res outs ∧ Φ res outs :=
  (comesP_of hl h).elim fun res h => h.elim fun outs h => ⟨res, outs, r_impl_ReplyCode ok h.1, h.2⟩

def i_impl_BookSame : IFn := ⟨10, [.t 4],
 .seq (.reg [⟨some 2, none, .box 1 (.t 0)⟩,
   ⟨some 3, none, .box 1 (.t 1)⟩,
   ⟨some 4, none, .mov (.c (.bool false))⟩]) <|
 .seq (.reg [⟨some 5, none, .faddr 0 (.t 2)⟩,
   ⟨some 6, none, .load false 1 (.t 5)⟩,
   ⟨some 7, none, .faddr 0 (.t 3)⟩,
   ⟨some 8, none, .load false 1 (.t 7)⟩,
   ⟨some 9, none, .call (.f f_slices_EqualFunc_impl_Acct_impl_Acct_impl_Acct_impl_Acct) [.t 6, .t 8, .f f_impl_AcctSame] false false⟩,
   ⟨some 4, none, .mov (.t 9)⟩]) <|
 .ret⟩
theorem r_impl_BookSame {args : List A} {res : R} {outs : List (List O)} (ok : okArgs args = true) (h : Comes PG i_impl_BookSame args res outs) : Ret PG f_impl_BookSame args res outs :=
  ret_of hmix Tryz.func12 (by kernel_rfl) ok h
theorem p_impl_BookSame {args : List A} {Φ : R → List (List O) → Prop} (ok : okArgs args = true) (hl : decide (args.length ≤ i_impl_BookSame.ntmps) = true)
    (h : den PG (finQ i_impl_BookSame.res args Φ) [.code i_impl_BookSame.body] .norm (st i_impl_BookSame.ntmps (pairs 0 (entry 0 args).1) (entry 0 args).2)) : ∃ res outs, Ret PG f_impl_BookSame args res outs ∧ Φ res outs :=
  (comesP_of hl h).elim fun res h => h.elim fun outs h => ⟨res, outs, r_impl_BookSame ok h.1, h.2⟩

def i_spec_l01New : IFn := ⟨32, [.t 2],
 .seq (.reg [⟨some 2, none, .mov (.c (.lit (.pointer none)))⟩]) <|
 .seq (.reg [⟨some 5, none, .mov (.t 0)⟩,
   ⟨some 6, none, .len false (.t 5)⟩,
   ⟨some 7, none, .bin .add (.c (.int .i64 1539)) (.t 6)⟩,
   ⟨some 3, none, .mov (.t 7)⟩]) <|
 .seq (.seq (.reg [⟨some 4, none, .mov (.c (.int .i64 0))⟩]) <|
  .blk 0 (
   .loop [0, 3, 4] [] (
    .seq (.seq (.reg [⟨some 8, none, .mov (.t 4)⟩,
       ⟨some 9, none, .mov (.t 0)⟩,
       ⟨some 10, none, .len false (.t 9)⟩,
       ⟨some 11, none, .bin .lss (.t 8) (.t 10)⟩,
       ⟨some 12, none, .mov (.t 11)⟩,
       ⟨some 13, some (12, true), .mov (.t 4)⟩,
       ⟨some 14, some (12, true), .bin .lss (.t 13) (.c (.int .i64 4000))⟩,
       ⟨some 15, none, .pick (.t 12) (.t 14) (.c (.bool false))⟩]) <|
     .ite (.t 15) (
      .skip) (
      .exit 0)) <|
    .seq (.blk 1 (
      .reg [⟨some 18, none, .mov (.t 3)⟩,
       ⟨some 19, none, .bin .mul (.t 18) (.c (.int .i64 31))⟩,
       ⟨some 20, none, .mov (.t 0)⟩,
       ⟨some 21, none, .mov (.t 4)⟩,
       ⟨some 22, none, .iaddr 1 (.t 20) (.t 21)⟩,
       ⟨some 23, none, .load false 1 (.t 22)⟩,
       ⟨some 24, none, .conv (.int .i64) (.t 23)⟩,
       ⟨some 25, none, .bin .add (.t 19) (.t 24)⟩,
       ⟨some 26, none, .bin .add (.t 25) (.c (.int .i64 7))⟩,
       ⟨some 27, none, .bin .and (.t 26) (.c (.int .i64 1073741823))⟩,
       ⟨some 3, none, .mov (.t 27)⟩])) <|
    .reg [⟨some 16, none, .mov (.t 4)⟩,
     ⟨some 17, none, .bin .add (.t 16) (.c (.int .i64 1))⟩,
     ⟨some 4, none, .mov (.t 17)⟩]))) <|
 .seq (.reg [⟨some 28, none, .mov (.t 0)⟩,
   ⟨some 29, none, .mov (.t 3)⟩,
   ⟨some 30, none, .build [.z 1, .int .i64 0, .int .i64 0] [(0, 1, .t 28), (2, 1, .t 29)]⟩,
   ⟨some 31, none, .box 3 (.t 30)⟩,
   ⟨some 2, none, .mov (.t 31)⟩]) <|
 .ret⟩
theorem r_spec_l01New {args : List A} {res : R} {outs : List (List O)} (ok : okArgs args = true) (h : Comes PG i_spec_l01New args res outs) : Ret PG f_spec_l01New args res outs :=
  ret_of hmix Tryz.func13 (by kernel_rfl) ok h
theorem p_spec_l01New {args : List A} {Φ : R → List (List O) → Prop} (ok : okArgs args = true) (hl : decide (args.length ≤ i_spec_l01New.ntmps) = true)
    (h : den PG (finQ i_spec_l01New.res args Φ) [.code i_spec_l01New.body] .norm (st i_spec_l01New.ntmps (pairs 0 (entry 0 args).1) (entry 0 args).2)) : ∃ res outs, Ret PG f_spec_l01New args res outs ∧ Φ res outs :=
  (comesP_of hl h).elim fun res h => h.elim fun outs h => ⟨res, outs, r_spec_l01New ok h.1, h.2⟩

def i_spec_l12Draw : IFn := ⟨26, [.cell true 1 2],
 .seq (.reg [⟨some 2, none, .alloc [.z 11]⟩]) <|
 .seq (.reg [⟨some 6, none, .build [.z 11] []⟩,
   ⟨some 3, none, .alloc [.z 11]⟩,
   ⟨none, none, .store 1 (.t 3) (.t 6)⟩]) <|
 .seq (.seq (.reg [⟨some 7, none, .bslice 1 6 (.str []) [(0, .c (.str [49, 56])), (1, .c (.str [50, 54])), (2, .c (.str [51, 52])), (3, .c (.str [52, 50])), (4, .c (.str [53, 57])), (5, .c (.str [54, 55]))]⟩,
    ⟨some 8, none, .len false (.t 7)⟩,
    ⟨some 9, none, .mov (.c (.int .i64 0))⟩]) <|
  .blk 0 (
   .loop [0, 2, 3, 7, 8, 9] [] (
    .seq (.reg [⟨some 10, none, .bin .lss (.t 9) (.t 8)⟩]) <|
    .seq (.ite (.t 10) (
      .skip) (
      .exit 0)) <|
    .seq (.blk 1 (
      .seq (.reg [⟨some 11, none, .iaddr 1 (.t 7) (.t 9)⟩,
        ⟨some 12, none, .load false 1 (.t 11)⟩,
        ⟨some 5, none, .mov (.t 12)⟩]) <|
      .seq (.reg [⟨some 13, none, .mov (.t 0)⟩,
        ⟨some 14, none, .call (.f f_spec_l01Once) [.t 13, .c (.int .i64 3)] true false⟩,
        ⟨some 15, none, .un .not (.t 14)⟩]) <|
      .ite (.t 15) (
       .draw [⟨some 16, none, .faddr 0 (.t 3)⟩,
        ⟨some 17, none, .load false 1 (.t 16)⟩,
        ⟨some 18, none, .mov (.t 0)⟩,
        ⟨some 19, none, .mov (.t 5)⟩,
        ⟨some 20, none, .call (.f f_spec_l09Draw) [.t 18, .t 19] true false⟩,
        ⟨some 21, none, .bslice 11 1 (.agg [.str [], .int .i64 0, .int .i64 0, .int .i64 0, .int .i64 0, .z 3, .int .i64 0, .int .i64 0, .z 1, .z 1, .z 3]) [(0, .t 20)]⟩,
        ⟨some 22, none, .app 11 160 (.t 17) (.t 21)⟩,
        ⟨some 23, none, .faddr 0 (.t 3)⟩,
        ⟨none, none, .store 1 (.t 23) (.t 22)⟩] [(0, 2), (1, 2), (0, 3), (1, 3), (2, 3), (0, 4), (1, 4), (0, 5), (1, 5)]) (
       .skip))) <|
    .reg [⟨some 24, none, .bin .add (.t 9) (.c (.int .i64 1))⟩,
     ⟨some 9, none, .mov (.t 24)⟩]))) <|
 .seq (.reg [⟨some 25, none, .load true 1 (.t 3)⟩,
   ⟨none, none, .store 1 (.t 2) (.t 25)⟩]) <|
 .ret⟩
theorem r_spec_l12Draw {args : List A} {res : R} {outs : List (List O)} (ok : okArgs args = true) (h : Comes PG i_spec_l12Draw args res outs) : Ret PG f_spec_l12Draw args res outs :=
  ret_of hmix Tryz.func14 (by kernel_rfl) ok h
theorem p_spec_l12Draw {args : List A} {Φ : R → List (List O) → Prop} (ok : okArgs args = true) (hl : decide (args.length ≤ i_spec_l12Draw.ntmps) = true)
    (h : den PG (finQ i_spec_l12Draw.res args Φ) [.code i_spec_l12Draw.body] .norm (st i_spec_l12Draw.ntmps (pairs 0 (entry 0 args).1) (entry 0 args).2)) : ∃ res outs, Ret PG f_spec_l12Draw args res outs ∧ Φ res outs :=
  (comesP_of hl h).elim fun res h => h.elim fun outs h => ⟨res, outs, r_spec_l12Draw ok h.1, h.2⟩

def i_spec_l09Draw : IFn := ⟨67, [.cell true 11 4],
 .seq (.reg [⟨some 4, none, .alloc [.str [], .int .i64 0, .int .i64 0, .int .i64 0, .int .i64 0, .z 3, .int .i64 0, .int .i64 0, .z 1, .z 1, .z 3]⟩]) <|
 .seq (.reg [⟨some 9, none, .mov (.t 1)⟩,
   ⟨some 10, none, .mov (.t 0)⟩,
   ⟨some 11, none, .bslice 1 5 (.int .i64 0) [(0, .c (.int .i64 100)), (1, .c (.int .i64 200)), (2, .c (.int .i64 60)), (3, .c (.int .i64 0)), (4, .c (.int .i64 9007199254740992))]⟩,
   ⟨some 12, none, .call (.f f_spec_l01Pick) [.t 10, .t 11] true false⟩,
   ⟨some 13, none, .mov (.t 0)⟩,
   ⟨some 14, none, .bslice 1 4 (.int .i64 0) [(0, .c (.int .i64 2)), (1, .c (.int .i64 3)), (2, .c (.int .i64 5)), (3, .c (.int .i64 1000))]⟩,
   ⟨some 15, none, .call (.f f_spec_l01Pick) [.t 13, .t 14] true false⟩,
   ⟨some 16, none, .mov (.t 0)⟩,
   ⟨some 17, none, .bslice 1 4 (.int .i64 0) [(0, .c (.int .i64 60)), (1, .c (.int .i64 120)), (2, .c (.int .i64 1000)), (3, .c (.int .i64 9007199254740992))]⟩,
   ⟨some 18, none, .call (.f f_spec_l01Pick) [.t 16, .t 17] true false⟩,
   ⟨some 19, none, .mov (.t 0)⟩,
   ⟨some 20, none, .call (.f f_spec_l01Below) [.t 19, .c (.int .i64 4)] true false⟩,
   ⟨some 21, none, .bin .add (.c (.int .i64 1)) (.t 20)⟩,
   ⟨some 22, none, .mov (.t 0)⟩,
   ⟨some 23, none, .call (.f f_spec_l01Below) [.t 22, .c (.int .i64 5)] true false⟩,
   ⟨some 24, none, .bin .add (.c (.int .i64 1)) (.t 23)⟩,
   ⟨some 25, none, .call (.f f_spec_AcctNew) [.t 9, .t 12, .t 15, .t 18, .t 21, .t 24] true false⟩,
   ⟨some 8, none, .mov (.t 25)⟩,
   ⟨some 26, none, .extr (.t 8) 0⟩,
   ⟨some 27, none, .extr (.t 8) 1⟩,
   ⟨some 5, none, .alloc [.str [], .int .i64 0, .int .i64 0, .int .i64 0, .int .i64 0, .z 3, .int .i64 0, .int .i64 0, .z 1, .z 1, .z 3]⟩,
   ⟨none, none, .store 11 (.t 5) (.t 26)⟩,
   ⟨some 6, none, .mov (.t 27)⟩]) <|
 .seq (.reg [⟨some 28, none, .mov (.t 0)⟩,
   ⟨some 29, none, .call (.f f_spec_l06Draw) [.t 28] true false⟩,
   ⟨some 30, none, .faddr 6 (.t 5)⟩,
   ⟨none, none, .store 4 (.t 30) (.t 29)⟩]) <|
 .seq (.reg [⟨some 31, none, .mov (.t 0)⟩,
   ⟨some 32, none, .call (.f f_spec_l07Draw) [.t 31] true false⟩,
   ⟨some 7, none, .mov (.t 32)⟩]) <|
 .seq (.seq (.draw [⟨some 33, none, .mov (.t 7)⟩,
    ⟨some 34, none, .call (.f f_spec_Stored) [.t 33] false false⟩,
    ⟨some 35, none, .call (.f f_spec_AddSat) [.t 34, .c (.int .i64 0)] false false⟩,
    ⟨some 36, none, .faddr 1 (.t 5)⟩,
    ⟨some 37, none, .load false 1 (.t 36)⟩,
    ⟨some 38, none, .bin .leq (.t 35) (.t 37)⟩] [(0, 3), (1, 3), (2, 3), (0, 4), (1, 4), (2, 4)]) <|
  .ite (.t 38) (
   .reg [⟨some 39, none, .mov (.t 7)⟩,
    ⟨some 40, none, .faddr 5 (.t 5)⟩,
    ⟨none, none, .store 1 (.t 40) (.t 39)⟩]) (
   .skip)) <|
 .seq (.seq (.draw [⟨some 41, none, .faddr 1 (.t 5)⟩,
    ⟨some 42, none, .load false 1 (.t 41)⟩,
    ⟨some 43, none, .faddr 5 (.t 5)⟩,
    ⟨some 44, none, .load false 1 (.t 43)⟩,
    ⟨some 45, none, .call (.f f_spec_Stored) [.t 44] false false⟩,
    ⟨some 46, none, .bin .gtr (.t 42) (.t 45)⟩,
    ⟨some 47, none, .mov (.t 46)⟩,
    ⟨some 48, some (47, true), .mov (.t 0)⟩,
    ⟨some 49, some (47, true), .call (.f f_spec_l01Once) [.t 48, .c (.int .i64 2)] true false⟩,
    ⟨some 50, none, .pick (.t 47) (.t 49) (.c (.bool false))⟩] [(0, 2), (1, 2), (0, 3), (1, 3), (0, 4), (1, 4)]) <|
  .ite (.t 50) (
   .draw [⟨some 51, none, .mov (.t 0)⟩,
    ⟨some 52, none, .faddr 1 (.t 5)⟩,
    ⟨some 53, none, .load false 1 (.t 52)⟩,
    ⟨some 54, none, .faddr 5 (.t 5)⟩,
    ⟨some 55, none, .load false 1 (.t 54)⟩,
    ⟨some 56, none, .call (.f f_spec_Stored) [.t 55] false false⟩,
    ⟨some 57, none, .bin .sub (.t 53) (.t 56)⟩,
    ⟨some 58, none, .bin .add (.t 57) (.c (.int .i64 1))⟩,
    ⟨some 59, none, .call (.f f_spec_l01Below) [.t 51, .t 58] true false⟩,
    ⟨some 60, none, .faddr 2 (.t 5)⟩,
    ⟨none, none, .store 1 (.t 60) (.t 59)⟩] [(0, 1), (0, 2), (0, 3), (1, 3), (2, 3), (0, 4), (1, 4), (2, 4), (0, 5), (1, 5), (2, 5), (0, 6), (0, 7)]) (
   .skip)) <|
 .seq (.seq (.reg [⟨some 61, none, .mov (.t 0)⟩,
    ⟨some 62, none, .call (.f f_spec_l01Once) [.t 61, .c (.int .i64 3)] true false⟩]) <|
  .ite (.t 62) (
   .reg [⟨some 63, none, .mov (.t 0)⟩,
    ⟨some 64, none, .call (.f f_spec_l08Draw) [.t 63] true false⟩,
    ⟨some 65, none, .faddr 10 (.t 5)⟩,
    ⟨none, none, .store 1 (.t 65) (.t 64)⟩]) (
   .skip)) <|
 .seq (.reg [⟨some 66, none, .load true 11 (.t 5)⟩,
   ⟨none, none, .store 11 (.t 4) (.t 66)⟩]) <|
 .ret⟩
theorem r_spec_l09Draw {args : List A} {res : R} {outs : List (List O)} (ok : okArgs args = true) (h : Comes PG i_spec_l09Draw args res outs) : Ret PG f_spec_l09Draw args res outs :=
  ret_of hmix Tryz.func15 (by kernel_rfl) ok h
theorem p_spec_l09Draw {args : List A} {Φ : R → List (List O) → Prop} (ok : okArgs args = true) (hl : decide (args.length ≤ i_spec_l09Draw.ntmps) = true)
    (h : den PG (finQ i_spec_l09Draw.res args Φ) [.code i_spec_l09Draw.body] .norm (st i_spec_l09Draw.ntmps (pairs 0 (entry 0 args).1) (entry 0 args).2)) : ∃ res outs, Ret PG f_spec_l09Draw args res outs ∧ Φ res outs :=
  (comesP_of hl h).elim fun res h => h.elim fun outs h => ⟨res, outs, r_spec_l09Draw ok h.1, h.2⟩

def i_spec_l12Req : IFn := ⟨91, [.cell true 8 4],
 .seq (.reg [⟨some 3, none, .box 1 (.t 1)⟩,
   ⟨some 4, none, .alloc [.int .i64 0, .str [], .str [], .str [], .str [], .str [], .int .i64 0, .int .i64 0]⟩]) <|
 .seq (.reg [⟨some 8, none, .mov (.t 0)⟩,
   ⟨some 9, none, .call (.f f_spec_l11Draw) [.t 8] true false⟩,
   ⟨some 5, none, .alloc [.int .i64 0, .str [], .str [], .str [], .str [], .str [], .int .i64 0, .int .i64 0]⟩,
   ⟨none, none, .store 8 (.t 5) (.t 9)⟩]) <|
 .seq (.seq (.reg [⟨some 10, none, .faddr 0 (.t 3)⟩,
    ⟨some 11, none, .load false 1 (.t 10)⟩,
    ⟨some 12, none, .len false (.t 11)⟩,
    ⟨some 13, none, .bin .eql (.t 12) (.c (.int .i64 0))⟩,
    ⟨some 14, none, .mov (.t 13)⟩,
    ⟨some 15, some (14, false), .mov (.t 0)⟩,
    ⟨some 16, some (14, false), .call (.f f_spec_l01Once) [.t 15, .c (.int .i64 10)] true false⟩,
    ⟨some 17, none, .pick (.t 14) (.c (.bool true)) (.t 16)⟩]) <|
  .ite (.t 17) (
   .seq (.reg [⟨some 18, none, .load true 8 (.t 5)⟩,
     ⟨none, none, .store 8 (.t 4) (.t 18)⟩]) <|
   .ret) (
   .skip)) <|
 .seq (.draw [⟨some 19, none, .faddr 0 (.t 3)⟩,
   ⟨some 20, none, .load false 1 (.t 19)⟩,
   ⟨some 21, none, .mov (.t 0)⟩,
   ⟨some 22, none, .faddr 0 (.t 3)⟩,
   ⟨some 23, none, .load false 1 (.t 22)⟩,
   ⟨some 24, none, .len false (.t 23)⟩,
   ⟨some 25, none, .call (.f f_spec_l01Below) [.t 21, .t 24] true false⟩,
   ⟨some 26, none, .iaddr 11 (.t 20) (.t 25)⟩,
   ⟨some 27, none, .load true 11 (.t 26)⟩,
   ⟨some 6, none, .alloc [.str [], .int .i64 0, .int .i64 0, .int .i64 0, .int .i64 0, .z 3, .int .i64 0, .int .i64 0, .z 1, .z 1, .z 3]⟩,
   ⟨none, none, .store 11 (.t 6) (.t 27)⟩] [(0, 2), (1, 2), (0, 3), (1, 3), (2, 3), (0, 4), (1, 4), (2, 4), (0, 5), (1, 5), (2, 5), (0, 6), (1, 6), (0, 9), (1, 9), (2, 9), (3, 9), (4, 9), (5, 9), (6, 9), (7, 9), (8, 9)]) <|
 .seq (.reg [⟨some 28, none, .faddr 0 (.t 6)⟩,
   ⟨some 29, none, .load false 1 (.t 28)⟩,
   ⟨some 30, none, .faddr 1 (.t 5)⟩,
   ⟨none, none, .store 1 (.t 30) (.t 29)⟩]) <|
 .seq (.seq (.reg [⟨some 31, none, .faddr 0 (.t 5)⟩,
    ⟨some 32, none, .load false 1 (.t 31)⟩,
    ⟨some 33, none, .bin .eql (.t 32) (.c (.int .i64 6))⟩]) <|
  .ite (.t 33) (
   .draw [⟨some 34, none, .faddr 0 (.t 3)⟩,
    ⟨some 35, none, .load false 1 (.t 34)⟩,
    ⟨some 36, none, .mov (.t 0)⟩,
    ⟨some 37, none, .faddr 0 (.t 3)⟩,
    ⟨some 38, none, .load false 1 (.t 37)⟩,
    ⟨some 39, none, .len false (.t 38)⟩,
    ⟨some 40, none, .call (.f f_spec_l01Below) [.t 36, .t 39] true false⟩,
    ⟨some 41, none, .iaddr 11 (.t 35) (.t 40)⟩,
    ⟨some 42, none, .faddr 0 (.t 41)⟩,
    ⟨some 43, none, .load false 1 (.t 42)⟩,
    ⟨some 44, none, .faddr 2 (.t 5)⟩,
    ⟨none, none, .store 1 (.t 44) (.t 43)⟩] [(0, 2), (1, 2), (0, 3), (1, 3), (2, 3), (0, 4), (1, 4), (2, 4), (0, 5), (1, 5), (2, 5), (0, 6), (1, 6)]) (
   .skip)) <|
 .seq (.seq (.reg [⟨some 45, none, .faddr 0 (.t 5)⟩,
    ⟨some 46, none, .load false 1 (.t 45)⟩,
    ⟨some 47, none, .call (.f f_spec_l11Hold) [.t 46] false false⟩,
    ⟨some 48, none, .mov (.t 47)⟩,
    ⟨some 49, some (48, true), .faddr 0 (.t 5)⟩,
    ⟨some 50, some (48, true), .load false 1 (.t 49)⟩,
    ⟨some 51, some (48, true), .bin .neq (.t 50) (.c (.int .i64 1))⟩,
    ⟨some 52, none, .pick (.t 48) (.t 51) (.c (.bool false))⟩,
    ⟨some 53, none, .mov (.t 52)⟩,
    ⟨some 54, some (53, true), .faddr 5 (.t 6)⟩,
    ⟨some 55, some (53, true), .load false 1 (.t 54)⟩,
    ⟨some 56, some (53, true), .len false (.t 55)⟩,
    ⟨some 57, some (53, true), .bin .gtr (.t 56) (.c (.int .i64 0))⟩,
    ⟨some 58, none, .pick (.t 53) (.t 57) (.c (.bool false))⟩,
    ⟨some 59, none, .mov (.t 58)⟩,
    ⟨some 60, some (59, true), .mov (.t 0)⟩,
    ⟨some 61, some (59, true), .call (.f f_spec_l01Once) [.t 60, .c (.int .i64 4)] true false⟩,
    ⟨some 62, some (59, true), .un .not (.t 61)⟩,
    ⟨some 63, none, .pick (.t 59) (.t 62) (.c (.bool false))⟩]) <|
  .ite (.t 63) (
   .seq (.draw [⟨some 64, none, .faddr 5 (.t 6)⟩,
     ⟨some 65, none, .load false 1 (.t 64)⟩,
     ⟨some 66, none, .mov (.t 0)⟩,
     ⟨some 67, none, .faddr 5 (.t 6)⟩,
     ⟨some 68, none, .load false 1 (.t 67)⟩,
     ⟨some 69, none, .len false (.t 68)⟩,
     ⟨some 70, none, .call (.f f_spec_l01Below) [.t 66, .t 69] true false⟩,
     ⟨some 71, none, .iaddr 3 (.t 65) (.t 70)⟩,
     ⟨some 72, none, .load true 3 (.t 71)⟩,
     ⟨some 7, none, .alloc [.str [], .int .i64 0, .int .i64 0]⟩,
     ⟨none, none, .store 3 (.t 7) (.t 72)⟩] [(0, 2), (1, 2), (0, 3), (1, 3), (2, 3), (0, 4), (1, 4), (2, 4), (0, 5), (1, 5), (2, 5), (0, 6), (1, 6), (0, 9), (1, 9), (2, 9), (3, 9), (4, 9), (5, 9), (6, 9), (7, 9), (8, 9)]) <|
   .seq (.reg [⟨some 73, none, .faddr 0 (.t 7)⟩,
     ⟨some 74, none, .load false 1 (.t 73)⟩,
     ⟨some 75, none, .faddr 3 (.t 5)⟩,
     ⟨none, none, .store 1 (.t 75) (.t 74)⟩]) <|
   .seq (.reg [⟨some 76, none, .faddr 0 (.t 5)⟩,
     ⟨some 77, none, .load false 1 (.t 76)⟩,
     ⟨some 78, none, .call (.f f_spec_l11Amount) [.t 77] false false⟩,
     ⟨some 79, none, .mov (.t 78)⟩,
     ⟨some 80, some (79, true), .mov (.t 0)⟩,
     ⟨some 81, some (79, true), .call (.f f_spec_l01Once) [.t 80, .c (.int .i64 2)] true false⟩,
     ⟨some 82, none, .pick (.t 79) (.t 81) (.c (.bool false))⟩]) <|
   .ite (.t 82) (
    .reg [⟨some 83, none, .mov (.t 0)⟩,
     ⟨some 84, none, .faddr 1 (.t 7)⟩,
     ⟨some 85, none, .load false 1 (.t 84)⟩,
     ⟨some 86, none, .bin .add (.t 85) (.c (.int .i64 1))⟩,
     ⟨some 87, none, .call (.f f_spec_l01Below) [.t 83, .t 86] true false⟩,
     ⟨some 88, none, .bin .add (.c (.int .i64 1)) (.t 87)⟩,
     ⟨some 89, none, .faddr 6 (.t 5)⟩,
     ⟨none, none, .store 1 (.t 89) (.t 88)⟩]) (
    .skip)) (
   .skip)) <|
 .seq (.reg [⟨some 90, none, .load true 8 (.t 5)⟩,
   ⟨none, none, .store 8 (.t 4) (.t 90)⟩]) <|
 .ret⟩
theorem r_spec_l12Req {args : List A} {res : R} {outs : List (List O)} (ok : okArgs args = true) (h : Comes PG i_spec_l12Req args res outs) : Ret PG f_spec_l12Req args res outs :=
  ret_of hmix Tryz.func16 (by kernel_rfl) ok h
theorem p_spec_l12Req {args : List A} {Φ : R → List (List O) → Prop} (ok : okArgs args = true) (hl : decide (args.length ≤ i_spec_l12Req.ntmps) = true)
    (h : den PG (finQ i_spec_l12Req.res args Φ) [.code i_spec_l12Req.body] .norm (st i_spec_l12Req.ntmps (pairs 0 (entry 0 args).1) (entry 0 args).2)) : ∃ res outs, Ret PG f_spec_l12Req args res outs ∧ Φ res outs :=
  (comesP_of hl h).elim fun res h => h.elim fun outs h => ⟨res, outs, r_spec_l12Req ok h.1, h.2⟩

def i_spec_l01Below : IFn := ⟨37, [.t 4],
 .seq (.reg [⟨some 4, none, .mov (.c (.int .i64 0))⟩]) <|
 .seq (.seq (.reg [⟨some 9, none, .mov (.t 1)⟩,
    ⟨some 10, none, .bin .leq (.t 9) (.c (.int .i64 0))⟩]) <|
  .ite (.t 10) (
   .seq (.reg [⟨some 4, none, .mov (.c (.int .i64 0))⟩]) <|
   .ret) (
   .skip)) <|
 .seq (.seq (.reg [⟨some 11, none, .mov (.t 1)⟩,
    ⟨some 12, none, .bin .leq (.t 11) (.c (.int .i64 256))⟩]) <|
  .ite (.t 12) (
   .seq (.reg [⟨some 13, none, .mov (.t 0)⟩,
     ⟨some 14, none, .call (.f f_spec_l01Byte) [.t 13] true false⟩,
     ⟨some 15, none, .mov (.t 1)⟩,
     ⟨some 16, none, .bin .rem (.t 14) (.t 15)⟩,
     ⟨some 4, none, .mov (.t 16)⟩]) <|
   .ret) (
   .skip)) <|
 .seq (.reg [⟨some 17, none, .mov (.t 0)⟩,
   ⟨some 18, none, .call (.f f_spec_l01Byte) [.t 17] true false⟩,
   ⟨some 5, none, .mov (.t 18)⟩]) <|
 .seq (.reg [⟨some 19, none, .mov (.t 0)⟩,
   ⟨some 20, none, .call (.f f_spec_l01Byte) [.t 19] true false⟩,
   ⟨some 6, none, .mov (.t 20)⟩]) <|
 .seq (.reg [⟨some 21, none, .mov (.t 0)⟩,
   ⟨some 22, none, .call (.f f_spec_l01Byte) [.t 21] true false⟩,
   ⟨some 7, none, .mov (.t 22)⟩]) <|
 .seq (.reg [⟨some 23, none, .mov (.t 0)⟩,
   ⟨some 24, none, .call (.f f_spec_l01Byte) [.t 23] true false⟩,
   ⟨some 8, none, .mov (.t 24)⟩]) <|
 .seq (.reg [⟨some 25, none, .mov (.t 5)⟩,
   ⟨some 26, none, .bin .mul (.t 25) (.c (.int .i64 16777216))⟩,
   ⟨some 27, none, .mov (.t 6)⟩,
   ⟨some 28, none, .bin .mul (.t 27) (.c (.int .i64 65536))⟩,
   ⟨some 29, none, .bin .add (.t 26) (.t 28)⟩,
   ⟨some 30, none, .mov (.t 7)⟩,
   ⟨some 31, none, .bin .mul (.t 30) (.c (.int .i64 256))⟩,
   ⟨some 32, none, .bin .add (.t 29) (.t 31)⟩,
   ⟨some 33, none, .mov (.t 8)⟩,
   ⟨some 34, none, .bin .add (.t 32) (.t 33)⟩,
   ⟨some 35, none, .mov (.t 1)⟩,
   ⟨some 36, none, .bin .rem (.t 34) (.t 35)⟩,
   ⟨some 4, none, .mov (.t 36)⟩]) <|
 .ret⟩
theorem r_spec_l01Below {args : List A} {res : R} {outs : List (List O)} (ok : okArgs args = true) (h : Comes PG i_spec_l01Below args res outs) : Ret PG f_spec_l01Below args res outs :=
  ret_of hmix Tryz.func17 (by kernel_rfl) ok h
theorem p_spec_l01Below {args : List A} {Φ : R → List (List O) → Prop} (ok : okArgs args = true) (hl : decide (args.length ≤ i_spec_l01Below.ntmps) = true)
    (h : den PG (finQ i_spec_l01Below.res args Φ) [.code i_spec_l01Below.body] .norm (st i_spec_l01Below.ntmps (pairs 0 (entry 0 args).1) (entry 0 args).2)) : ∃ res outs, Ret PG f_spec_l01Below args res outs ∧ Φ res outs :=
  (comesP_of hl h).elim fun res h => h.elim fun outs h => ⟨res, outs, r_spec_l01Below ok h.1, h.2⟩

def i_slices_IndexFunc_impl_Acct_impl_Acct : IFn := ⟨19, [.t 4],
 .seq (.reg [⟨some 4, none, .mov (.c (.int .i64 0))⟩]) <|
 .seq (.seq (.reg [⟨some 6, none, .mov (.t 0)⟩,
    ⟨some 7, none, .len false (.t 6)⟩,
    ⟨some 8, none, .mov (.c (.int .i64 0))⟩]) <|
  .blk 0 (
   .loop [0, 1, 7, 8] [] (
    .seq (.reg [⟨some 9, none, .bin .lss (.t 8) (.t 7)⟩]) <|
    .seq (.ite (.t 9) (
      .skip) (
      .exit 0)) <|
    .seq (.blk 1 (
      .seq (.reg [⟨some 10, none, .mov (.t 8)⟩,
        ⟨some 5, none, .mov (.t 10)⟩]) <|
      .seq (.reg [⟨some 11, none, .mov (.t 1)⟩,
        ⟨some 12, none, .mov (.t 0)⟩,
        ⟨some 13, none, .mov (.t 5)⟩,
        ⟨some 14, none, .iaddr 11 (.t 12) (.t 13)⟩,
        ⟨some 15, none, .load true 11 (.t 14)⟩,
        ⟨some 16, none, .call (.t 11) [.t 15] true false⟩]) <|
      .ite (.t 16) (
       .seq (.reg [⟨some 17, none, .mov (.t 5)⟩,
         ⟨some 4, none, .mov (.t 17)⟩]) <|
       .ret) (
       .skip))) <|
    .reg [⟨some 18, none, .bin .add (.t 8) (.c (.int .i64 1))⟩,
     ⟨some 8, none, .mov (.t 18)⟩]))) <|
 .seq (.reg [⟨some 4, none, .mov (.c (.int .i64 (-1)))⟩]) <|
 .ret⟩
theorem r_slices_IndexFunc_impl_Acct_impl_Acct {args : List A} {res : R} {outs : List (List O)} (ok : okArgs args = true) (h : Comes PG i_slices_IndexFunc_impl_Acct_impl_Acct args res outs) : Ret PG f_slices_IndexFunc_impl_Acct_impl_Acct args res outs :=
  ret_of hmix Tryz.func18 (by kernel_rfl) ok h
theorem p_slices_IndexFunc_impl_Acct_impl_Acct {args : List A} {Φ : R → List (List O) → Prop} (ok : okArgs args = true) (hl : decide (args.length ≤ i_slices_IndexFunc_impl_Acct_impl_Acct.ntmps) = true)
    (h : den PG (finQ i_slices_IndexFunc_impl_Acct_impl_Acct.res args Φ) [.code i_slices_IndexFunc_impl_Acct_impl_Acct.body] .norm (st i_slices_IndexFunc_impl_Acct_impl_Acct.ntmps (pairs 0 (entry 0 args).1) (entry 0 args).2)) : ∃ res outs, Ret PG f_slices_IndexFunc_impl_Acct_impl_Acct args res outs ∧ Φ res outs :=
  (comesP_of hl h).elim fun res h => h.elim fun outs h => ⟨res, outs, r_slices_IndexFunc_impl_Acct_impl_Acct ok h.1, h.2⟩

def i_impl_BookAt_1 : IFn := ⟨8, [.t 3],
 .seq (.reg [⟨some 2, none, .box 11 (.t 0)⟩,
   ⟨some 3, none, .mov (.c (.bool false))⟩]) <|
 .seq (.reg [⟨some 4, none, .faddr 0 (.t 2)⟩,
   ⟨some 5, none, .load false 1 (.t 4)⟩,
   ⟨some 6, none, .load false 1 (.t 1)⟩,
   ⟨some 7, none, .bin .eql (.t 5) (.t 6)⟩,
   ⟨some 3, none, .mov (.t 7)⟩]) <|
 .ret⟩
theorem r_impl_BookAt_1 {args : List A} {res : R} {outs : List (List O)} (ok : okArgs args = true) (h : Comes PG i_impl_BookAt_1 args res outs) : Ret PG f_impl_BookAt_1 args res outs :=
  ret_of hmix Tryz.func19 (by kernel_rfl) ok h
theorem p_impl_BookAt_1 {args : List A} {Φ : R → List (List O) → Prop} (ok : okArgs args = true) (hl : decide (args.length ≤ i_impl_BookAt_1.ntmps) = true)
    (h : den PG (finQ i_impl_BookAt_1.res args Φ) [.code i_impl_BookAt_1.body] .norm (st i_impl_BookAt_1.ntmps (pairs 0 (entry 0 args).1) (entry 0 args).2)) : ∃ res outs, Ret PG f_impl_BookAt_1 args res outs ∧ Φ res outs :=
  (comesP_of hl h).elim fun res h => h.elim fun outs h => ⟨res, outs, r_impl_BookAt_1 ok h.1, h.2⟩

def i_impl_ReqOk : IFn := ⟨79, [.t 2],
 .seq (.reg [⟨some 1, none, .box 8 (.t 0)⟩,
   ⟨some 2, none, .mov (.c (.bool false))⟩]) <|
 .seq (.reg [⟨some 8, none, .faddr 0 (.t 1)⟩,
   ⟨some 9, none, .load false 1 (.t 8)⟩,
   ⟨some 10, none, .call (.f f_impl_opOf) [.t 9] false false⟩,
   ⟨some 3, none, .alloc [.str [], .str [], .str [], .z 1]⟩,
   ⟨none, none, .store 4 (.t 3) (.t 10)⟩]) <|
 .seq (.seq (.reg [⟨some 11, none, .faddr 2 (.t 3)⟩,
    ⟨some 12, none, .load false 1 (.t 11)⟩,
    ⟨some 13, none, .bin .eql (.t 12) (.c (.str []))⟩,
    ⟨some 14, none, .mov (.t 13)⟩,
    ⟨some 15, some (14, false), .faddr 5 (.t 1)⟩,
    ⟨some 16, some (14, false), .load false 1 (.t 15)⟩,
    ⟨some 17, some (14, false), .faddr 0 (.t 3)⟩,
    ⟨some 18, some (14, false), .load false 1 (.t 17)⟩,
    ⟨some 19, some (14, false), .bin .neq (.t 16) (.t 18)⟩,
    ⟨some 20, none, .pick (.t 14) (.c (.bool true)) (.t 19)⟩,
    ⟨some 21, none, .mov (.t 20)⟩,
    ⟨some 22, some (21, false), .faddr 1 (.t 1)⟩,
    ⟨some 23, some (21, false), .load false 1 (.t 22)⟩,
    ⟨some 24, some (21, false), .call (.f f_impl_AcctIdOk) [.t 23] false false⟩,
    ⟨some 25, some (21, false), .un .not (.t 24)⟩,
    ⟨some 26, none, .pick (.t 21) (.c (.bool true)) (.t 25)⟩,
    ⟨some 27, none, .mov (.t 26)⟩,
    ⟨some 28, some (27, false), .faddr 4 (.t 1)⟩,
    ⟨some 29, some (27, false), .load false 1 (.t 28)⟩,
    ⟨some 30, some (27, false), .call (.f f_impl_isWide) [.t 29, .c (.int .i64 6)] false false⟩,
    ⟨some 31, some (27, false), .un .not (.t 30)⟩,
    ⟨some 32, none, .pick (.t 27) (.c (.bool true)) (.t 31)⟩]) <|
  .ite (.t 32) (
   .seq (.reg [⟨some 2, none, .mov (.c (.bool false))⟩]) <|
   .ret) (
   .skip)) <|
 .seq (.draw [⟨some 33, none, .faddr 3 (.t 1)⟩,
   ⟨some 34, none, .load false 1 (.t 33)⟩,
   ⟨some 35, none, .bin .eql (.t 34) (.c (.str []))⟩,
   ⟨some 36, none, .faddr 6 (.t 1)⟩,
   ⟨some 37, none, .load false 1 (.t 36)⟩,
   ⟨some 38, none, .bin .eql (.t 37) (.c (.int .i64 0))⟩,
   ⟨some 39, none, .faddr 7 (.t 1)⟩,
   ⟨some 40, none, .load false 1 (.t 39)⟩,
   ⟨some 41, none, .bin .eql (.t 40) (.c (.int .i64 0))⟩,
   ⟨some 42, none, .faddr 2 (.t 1)⟩,
   ⟨some 43, none, .load false 1 (.t 42)⟩,
   ⟨some 44, none, .bin .eql (.t 43) (.c (.str []))⟩,
   ⟨some 4, none, .mov (.t 35)⟩,
   ⟨some 5, none, .mov (.t 38)⟩,
   ⟨some 6, none, .mov (.t 41)⟩,
   ⟨some 7, none, .mov (.t 44)⟩] [(0, 3), (1, 3), (2, 3), (0, 4), (1, 4), (2, 4), (0, 5), (1, 5), (2, 5), (0, 6), (1, 6), (2, 6), (3, 6), (4, 6), (5, 6), (0, 7), (1, 7), (2, 7), (3, 7), (4, 7), (5, 7), (0, 8), (1, 8), (2, 8), (3, 8), (4, 8), (5, 8), (0, 9), (1, 9), (2, 9), (3, 9), (4, 9), (5, 9), (6, 9), (7, 9), (8, 9), (0, 10), (1, 10), (2, 10), (3, 10), (4, 10), (5, 10), (6, 10), (7, 10), (8, 10), (0, 11), (1, 11), (2, 11), (3, 11), (4, 11), (5, 11), (6, 11), (7, 11), (8, 11), (3, 12), (4, 12), (5, 12), (6, 12), (7, 12), (8, 12), (9, 12), (10, 12), (11, 12), (6, 13), (7, 13), (8, 13), (9, 13), (10, 13), (11, 13), (9, 14), (10, 14), (11, 14)]) <|
 .seq (.seq (.reg [⟨some 45, none, .faddr 0 (.t 1)⟩,
    ⟨some 46, none, .load false 1 (.t 45)⟩,
    ⟨some 47, none, .call (.f f_impl_uses) [.t 46, .c (.int .i64 38)] false false⟩]) <|
  .ite (.t 47) (
   .reg [⟨some 48, none, .faddr 3 (.t 1)⟩,
    ⟨some 49, none, .load false 1 (.t 48)⟩,
    ⟨some 50, none, .call (.f f_impl_HoldIdOk) [.t 49] false false⟩,
    ⟨some 4, none, .mov (.t 50)⟩]) (
   .skip)) <|
 .seq (.seq (.reg [⟨some 51, none, .faddr 0 (.t 1)⟩,
    ⟨some 52, none, .load false 1 (.t 51)⟩,
    ⟨some 53, none, .call (.f f_impl_uses) [.t 52, .c (.int .i64 4)] false false⟩]) <|
  .ite (.t 53) (
   .reg [⟨some 54, none, .faddr 6 (.t 1)⟩,
    ⟨some 55, none, .load false 1 (.t 54)⟩,
    ⟨some 56, none, .call (.f f_impl_within) [.t 55, .c (.int .i64 0), .c (.int .i64 999999999999)] false false⟩,
    ⟨some 5, none, .mov (.t 56)⟩]) (
   .skip)) <|
 .seq (.seq (.reg [⟨some 57, none, .faddr 0 (.t 1)⟩,
    ⟨some 58, none, .load false 1 (.t 57)⟩,
    ⟨some 59, none, .call (.f f_impl_uses) [.t 58, .c (.int .i64 14)] false false⟩]) <|
  .ite (.t 59) (
   .reg [⟨some 60, none, .faddr 7 (.t 1)⟩,
    ⟨some 61, none, .load false 1 (.t 60)⟩,
    ⟨some 62, none, .call (.f f_impl_within) [.t 61, .c (.int .i64 0), .c (.int .i64 9999)] false false⟩,
    ⟨some 6, none, .mov (.t 62)⟩]) (
   .skip)) <|
 .seq (.seq (.reg [⟨some 63, none, .faddr 0 (.t 1)⟩,
    ⟨some 64, none, .load false 1 (.t 63)⟩,
    ⟨some 65, none, .call (.f f_impl_uses) [.t 64, .c (.int .i64 103)] false false⟩]) <|
  .ite (.t 65) (
   .reg [⟨some 66, none, .faddr 2 (.t 1)⟩,
    ⟨some 67, none, .load false 1 (.t 66)⟩,
    ⟨some 68, none, .call (.f f_impl_AcctIdOk) [.t 67] false false⟩,
    ⟨some 7, none, .mov (.t 68)⟩]) (
   .skip)) <|
 .seq (.reg [⟨some 69, none, .mov (.t 4)⟩,
   ⟨some 70, none, .mov (.t 69)⟩,
   ⟨some 71, some (70, true), .mov (.t 5)⟩,
   ⟨some 72, none, .pick (.t 70) (.t 71) (.c (.bool false))⟩,
   ⟨some 73, none, .mov (.t 72)⟩,
   ⟨some 74, some (73, true), .mov (.t 6)⟩,
   ⟨some 75, none, .pick (.t 73) (.t 74) (.c (.bool false))⟩,
   ⟨some 76, none, .mov (.t 75)⟩,
   ⟨some 77, some (76, true), .mov (.t 7)⟩,
   ⟨some 78, none, .pick (.t 76) (.t 77) (.c (.bool false))⟩,
   ⟨some 2, none, .mov (.t 78)⟩]) <|
 .ret⟩
theorem r_impl_ReqOk {args : List A} {res : R} {outs : List (List O)} (ok : okArgs args = true) (h : Comes PG i_impl_ReqOk args res outs) : Ret PG f_impl_ReqOk args res outs :=
  ret_of hmix Tryz.func20 (by kernel_rfl) ok h
theorem p_impl_ReqOk {args : List A} {Φ : R → List (List O) → Prop} (ok : okArgs args = true) (hl : decide (args.length ≤ i_impl_ReqOk.ntmps) = true)
    (h : den PG (finQ i_impl_ReqOk.res args Φ) [.code i_impl_ReqOk.body] .norm (st i_impl_ReqOk.ntmps (pairs 0 (entry 0 args).1) (entry 0 args).2)) : ∃ res outs, Ret PG f_impl_ReqOk args res outs ∧ Φ res outs :=
  (comesP_of hl h).elim fun res h => h.elim fun outs h => ⟨res, outs, r_impl_ReqOk ok h.1, h.2⟩

def i_impl_OpCode : IFn := ⟨6, [.t 2],
 .seq (.reg [⟨some 2, none, .mov (.c (.str []))⟩]) <|
 .seq (.reg [⟨some 3, none, .mov (.t 0)⟩,
   ⟨some 4, none, .call (.f f_impl_opOf) [.t 3] false false⟩,
   ⟨some 5, none, .field false 1 1 (.t 4)⟩,
   ⟨some 2, none, .mov (.t 5)⟩]) <|
 .ret⟩
theorem r_impl_OpCode {args : List A} {res : R} {outs : List (List O)} (ok : okArgs args = true) (h : Comes PG i_impl_OpCode args res outs) : Ret PG f_impl_OpCode args res outs :=
  ret_of hmix Tryz.func21 (by kernel_rfl) ok h
theorem p_impl_OpCode {args : List A} {Φ : R → List (List O) → Prop} (ok : okArgs args = true) (hl : decide (args.length ≤ i_impl_OpCode.ntmps) = true)
    (h : den PG (finQ i_impl_OpCode.res args Φ) [.code i_impl_OpCode.body] .norm (st i_impl_OpCode.ntmps (pairs 0 (entry 0 args).1) (entry 0 args).2)) : ∃ res outs, Ret PG f_impl_OpCode args res outs ∧ Φ res outs :=
  (comesP_of hl h).elim fun res h => h.elim fun outs h => ⟨res, outs, r_impl_OpCode ok h.1, h.2⟩

def i_impl_Wide : IFn := ⟨28, [.t 4],
 .seq (.reg [⟨some 4, none, .mov (.c (.str []))⟩]) <|
 .seq (.reg [⟨some 6, none, .mov (.t 0)⟩,
   ⟨some 7, none, .call (.f f_strconv_Itoa) [.t 6] false false⟩,
   ⟨some 5, none, .mov (.t 7)⟩]) <|
 .seq (.seq (.reg [⟨some 8, none, .mov (.t 0)⟩,
    ⟨some 9, none, .bin .lss (.t 8) (.c (.int .i64 0))⟩,
    ⟨some 10, none, .mov (.t 9)⟩,
    ⟨some 11, some (10, false), .mov (.t 1)⟩,
    ⟨some 12, some (10, false), .call (.f f_impl_within) [.t 11, .c (.int .i64 1), .c (.int .i64 18)] false false⟩,
    ⟨some 13, some (10, false), .un .not (.t 12)⟩,
    ⟨some 14, none, .pick (.t 10) (.c (.bool true)) (.t 13)⟩,
    ⟨some 15, none, .mov (.t 14)⟩,
    ⟨some 16, some (15, false), .mov (.t 5)⟩,
    ⟨some 17, some (15, false), .len true (.t 16)⟩,
    ⟨some 18, some (15, false), .mov (.t 1)⟩,
    ⟨some 19, some (15, false), .bin .gtr (.t 17) (.t 18)⟩,
    ⟨some 20, none, .pick (.t 15) (.c (.bool true)) (.t 19)⟩]) <|
  .ite (.t 20) (
   .seq (.reg [⟨some 4, none, .mov (.c (.str []))⟩]) <|
   .ret) (
   .skip)) <|
 .seq (.reg [⟨some 21, none, .mov (.t 1)⟩,
   ⟨some 22, none, .mov (.t 5)⟩,
   ⟨some 23, none, .len true (.t 22)⟩,
   ⟨some 24, none, .bin .sub (.t 21) (.t 23)⟩,
   ⟨some 25, none, .call (.f f_strings_Repeat) [.c (.str [48]), .t 24] false false⟩,
   ⟨some 26, none, .mov (.t 5)⟩,
   ⟨some 27, none, .bin .add (.t 25) (.t 26)⟩,
   ⟨some 4, none, .mov (.t 27)⟩]) <|
 .ret⟩
theorem r_impl_Wide {args : List A} {res : R} {outs : List (List O)} (ok : okArgs args = true) (h : Comes PG i_impl_Wide args res outs) : Ret PG f_impl_Wide args res outs :=
  ret_of hmix Tryz.func22 (by kernel_rfl) ok h
theorem p_impl_Wide {args : List A} {Φ : R → List (List O) → Prop} (ok : okArgs args = true) (hl : decide (args.length ≤ i_impl_Wide.ntmps) = true)
    (h : den PG (finQ i_impl_Wide.res args Φ) [.code i_impl_Wide.body] .norm (st i_impl_Wide.ntmps (pairs 0 (entry 0 args).1) (entry 0 args).2)) : ∃ res outs, Ret PG f_impl_Wide args res outs ∧ Φ res outs :=
  (comesP_of hl h).elim fun res h => h.elim fun outs h => ⟨res, outs, r_impl_Wide ok h.1, h.2⟩

def i_impl_FieldFit : IFn := ⟨31, [.t 4],
 .seq (.reg [⟨some 4, none, .mov (.c (.str []))⟩]) <|
 .seq (.reg [⟨some 6, none, .mov (.t 0)⟩,
   ⟨some 7, none, .call (.f f_impl_FieldSize) [.t 6] false false⟩,
   ⟨some 8, none, .mov (.t 1)⟩,
   ⟨some 9, none, .len true (.t 8)⟩,
   ⟨some 10, none, .bin .sub (.t 7) (.t 9)⟩,
   ⟨some 11, none, .max (.t 10) (.c (.int .i64 0))⟩,
   ⟨some 5, none, .mov (.t 11)⟩]) <|
 .seq (.seq (.reg [⟨some 12, none, .mov (.t 0)⟩,
    ⟨some 13, none, .call (.f f_impl_FieldKind) [.t 12] false false⟩]) <|
  .blk 0 (
   .seq (.reg [⟨some 15, none, .bin .eql (.t 13) (.c (.int .i64 1))⟩,
     ⟨some 14, none, .mov (.t 15)⟩]) <|
   .ite (.t 14) (
    .reg [⟨some 16, none, .mov (.t 5)⟩,
     ⟨some 17, none, .call (.f f_strings_Repeat) [.c (.str [48]), .t 16] false false⟩,
     ⟨some 18, none, .mov (.t 1)⟩,
     ⟨some 19, none, .bin .add (.t 17) (.t 18)⟩,
     ⟨some 1, none, .mov (.t 19)⟩]) (
    .seq (.reg [⟨some 21, none, .bin .eql (.t 13) (.c (.int .i64 2))⟩,
      ⟨some 20, none, .mov (.t 21)⟩]) <|
    .ite (.t 20) (
     .reg [⟨some 22, none, .mov (.t 1)⟩,
      ⟨some 23, none, .mov (.t 5)⟩,
      ⟨some 24, none, .call (.f f_strings_Repeat) [.c (.str [32]), .t 23] false false⟩,
      ⟨some 25, none, .bin .add (.t 22) (.t 24)⟩,
      ⟨some 1, none, .mov (.t 25)⟩]) (
     .skip)))) <|
 .seq (.seq (.reg [⟨some 26, none, .mov (.t 0)⟩,
    ⟨some 27, none, .mov (.t 1)⟩,
    ⟨some 28, none, .call (.f f_impl_FieldOk) [.t 26, .t 27] false false⟩,
    ⟨some 29, none, .un .not (.t 28)⟩]) <|
  .ite (.t 29) (
   .seq (.reg [⟨some 4, none, .mov (.c (.str []))⟩]) <|
   .ret) (
   .skip)) <|
 .seq (.reg [⟨some 30, none, .mov (.t 1)⟩,
   ⟨some 4, none, .mov (.t 30)⟩]) <|
 .ret⟩
theorem r_impl_FieldFit {args : List A} {res : R} {outs : List (List O)} (ok : okArgs args = true) (h : Comes PG i_impl_FieldFit args res outs) : Ret PG f_impl_FieldFit args res outs :=
  ret_of hmix Tryz.func23 (by kernel_rfl) ok h
theorem p_impl_FieldFit {args : List A} {Φ : R → List (List O) → Prop} (ok : okArgs args = true) (hl : decide (args.length ≤ i_impl_FieldFit.ntmps) = true)
    (h : den PG (finQ i_impl_FieldFit.res args Φ) [.code i_impl_FieldFit.body] .norm (st i_impl_FieldFit.ntmps (pairs 0 (entry 0 args).1) (entry 0 args).2)) : ∃ res outs, Ret PG f_impl_FieldFit args res outs ∧ Φ res outs :=
  (comesP_of hl h).elim fun res h => h.elim fun outs h => ⟨res, outs, r_impl_FieldFit ok h.1, h.2⟩

def i_impl_uses : IFn := ⟨10, [.t 4],
 .seq (.reg [⟨some 4, none, .mov (.c (.bool false))⟩]) <|
 .seq (.reg [⟨some 5, none, .mov (.t 0)⟩,
   ⟨some 6, none, .call (.f f_impl_opOf) [.t 5] false false⟩,
   ⟨some 7, none, .field false 3 1 (.t 6)⟩,
   ⟨some 8, none, .mov (.t 1)⟩,
   ⟨some 9, none, .call (.f f_slices_Contains_int_int) [.t 7, .t 8] false false⟩,
   ⟨some 4, none, .mov (.t 9)⟩]) <|
 .ret⟩
theorem r_impl_uses {args : List A} {res : R} {outs : List (List O)} (ok : okArgs args = true) (h : Comes PG i_impl_uses args res outs) : Ret PG f_impl_uses args res outs :=
  ret_of hmix Tryz.func24 (by kernel_rfl) ok h
theorem p_impl_uses {args : List A} {Φ : R → List (List O) → Prop} (ok : okArgs args = true) (hl : decide (args.length ≤ i_impl_uses.ntmps) = true)
    (h : den PG (finQ i_impl_uses.res args Φ) [.code i_impl_uses.body] .norm (st i_impl_uses.ntmps (pairs 0 (entry 0 args).1) (entry 0 args).2)) : ∃ res outs, Ret PG f_impl_uses args res outs ∧ Φ res outs :=
  (comesP_of hl h).elim fun res h => h.elim fun outs h => ⟨res, outs, r_impl_uses ok h.1, h.2⟩

def i_impl_MsgOk : IFn := ⟨39, [.t 2],
 .seq (.reg [⟨some 1, none, .box 2 (.t 0)⟩,
   ⟨some 2, none, .mov (.c (.bool false))⟩]) <|
 .seq (.seq (.reg [⟨some 5, none, .faddr 1 (.t 1)⟩,
    ⟨some 6, none, .load false 1 (.t 5)⟩,
    ⟨some 7, none, .len false (.t 6)⟩,
    ⟨some 8, none, .mov (.c (.int .i64 0))⟩]) <|
  .blk 0 (
   .loop [1, 6, 7, 8] [] (
    .seq (.reg [⟨some 9, none, .bin .lss (.t 8) (.t 7)⟩]) <|
    .seq (.ite (.t 9) (
      .skip) (
      .exit 0)) <|
    .seq (.blk 1 (
      .seq (.reg [⟨some 10, none, .mov (.t 8)⟩,
        ⟨some 11, none, .iaddr 2 (.t 6) (.t 8)⟩,
        ⟨some 12, none, .load true 2 (.t 11)⟩,
        ⟨some 4, none, .alloc [.int .i64 0, .str []]⟩,
        ⟨some 3, none, .mov (.t 10)⟩,
        ⟨none, none, .store 2 (.t 4) (.t 12)⟩]) <|
      .seq (.draw [⟨some 13, none, .faddr 0 (.t 4)⟩,
        ⟨some 14, none, .load false 1 (.t 13)⟩,
        ⟨some 15, none, .faddr 1 (.t 4)⟩,
        ⟨some 16, none, .load false 1 (.t 15)⟩,
        ⟨some 17, none, .call (.f f_impl_FieldOk) [.t 14, .t 16] false false⟩,
        ⟨some 18, none, .un .not (.t 17)⟩,
        ⟨some 19, none, .mov (.t 18)⟩,
        ⟨some 20, some (19, false), .mov (.t 3)⟩,
        ⟨some 21, some (19, false), .bin .gtr (.t 20) (.c (.int .i64 0))⟩,
        ⟨some 22, some (19, false), .mov (.t 21)⟩,
        ⟨some 23, some (22, true), .faddr 0 (.t 4)⟩,
        ⟨some 24, some (22, true), .load false 1 (.t 23)⟩,
        ⟨some 25, some (22, true), .faddr 1 (.t 1)⟩,
        ⟨some 26, some (22, true), .load false 1 (.t 25)⟩,
        ⟨some 27, some (22, true), .mov (.t 3)⟩,
        ⟨some 28, some (22, true), .bin .sub (.t 27) (.c (.int .i64 1))⟩,
        ⟨some 29, some (22, true), .iaddr 2 (.t 26) (.t 28)⟩,
        ⟨some 30, some (22, true), .faddr 0 (.t 29)⟩,
        ⟨some 31, some (22, true), .load false 1 (.t 30)⟩,
        ⟨some 32, some (22, true), .bin .leq (.t 24) (.t 31)⟩,
        ⟨some 33, some (19, false), .pick (.t 22) (.t 32) (.c (.bool false))⟩,
        ⟨some 34, none, .pick (.t 19) (.c (.bool true)) (.t 33)⟩] [(0, 2), (1, 2), (0, 3), (1, 3), (10, 12), (11, 12), (10, 13), (11, 13), (10, 14), (11, 14), (12, 14), (13, 14), (10, 15), (11, 15), (12, 15), (13, 15), (10, 16), (11, 16), (10, 17), (11, 17), (10, 18), (11, 18)]) <|
      .ite (.t 34) (
       .seq (.reg [⟨some 2, none, .mov (.c (.bool false))⟩]) <|
       .ret) (
       .skip))) <|
    .reg [⟨some 35, none, .bin .add (.t 8) (.c (.int .i64 1))⟩,
     ⟨some 8, none, .mov (.t 35)⟩]))) <|
 .seq (.reg [⟨some 36, none, .faddr 0 (.t 1)⟩,
   ⟨some 37, none, .load false 1 (.t 36)⟩,
   ⟨some 38, none, .call (.f f_impl_isWide) [.t 37, .c (.int .i64 4)] false false⟩,
   ⟨some 2, none, .mov (.t 38)⟩]) <|
 .ret⟩
theorem r_impl_MsgOk {args : List A} {res : R} {outs : List (List O)} (ok : okArgs args = true) (h : Comes PG i_impl_MsgOk args res outs) : Ret PG f_impl_MsgOk args res outs :=
  ret_of hmix Tryz.func25 (by kernel_rfl) ok h
theorem p_impl_MsgOk {args : List A} {Φ : R → List (List O) → Prop} (ok : okArgs args = true) (hl : decide (args.length ≤ i_impl_MsgOk.ntmps) = true)
    (h : den PG (finQ i_impl_MsgOk.res args Φ) [.code i_impl_MsgOk.body] .norm (st i_impl_MsgOk.ntmps (pairs 0 (entry 0 args).1) (entry 0 args).2)) : ∃ res outs, Ret PG f_impl_MsgOk args res outs ∧ Φ res outs :=
  (comesP_of hl h).elim fun res h => h.elim fun outs h => ⟨res, outs, r_impl_MsgOk ok h.1, h.2⟩

def i_impl_PutField : IFn := ⟨47, [.t 4, .t 5],
 .seq (.reg [⟨some 4, none, .mov (.c (.z 1))⟩,
   ⟨some 5, none, .mov (.c (.bool false))⟩]) <|
 .seq (.seq (.reg [⟨some 10, none, .mov (.t 0)⟩,
    ⟨some 11, none, .mov (.t 1)⟩,
    ⟨some 12, none, .call (.f f_impl_FieldOk) [.t 10, .t 11] false false⟩,
    ⟨some 13, none, .un .not (.t 12)⟩]) <|
  .ite (.t 13) (
   .seq (.reg [⟨some 4, none, .mov (.c (.z 1))⟩,
     ⟨some 5, none, .mov (.c (.bool false))⟩]) <|
   .ret) (
   .skip)) <|
 .seq (.reg [⟨some 14, none, .mov (.t 1)⟩,
   ⟨some 15, none, .conv .strBytes (.t 14)⟩,
   ⟨some 6, none, .mov (.t 15)⟩]) <|
 .seq (.reg [⟨some 16, none, .mov (.t 0)⟩,
   ⟨some 17, none, .call (.f f_impl_FieldKind) [.t 16] false false⟩,
   ⟨some 7, none, .mov (.t 17)⟩]) <|
 .seq (.seq (.reg [⟨some 18, none, .mov (.t 7)⟩,
    ⟨some 19, none, .bin .eql (.t 18) (.c (.int .i64 1))⟩,
    ⟨some 20, none, .mov (.t 19)⟩,
    ⟨some 21, some (20, false), .mov (.t 7)⟩,
    ⟨some 22, some (20, false), .bin .eql (.t 21) (.c (.int .i64 3))⟩,
    ⟨some 23, none, .pick (.t 20) (.c (.bool true)) (.t 22)⟩]) <|
  .ite (.t 23) (
   .reg [⟨some 25, none, .mov (.t 1)⟩,
    ⟨some 26, none, .call (.f f_impl_PutBcd) [.t 25] true false⟩,
    ⟨some 24, none, .mov (.t 26)⟩,
    ⟨some 27, none, .extr (.t 24) 0⟩,
    ⟨some 28, none, .extr (.t 24) 1⟩,
    ⟨some 6, none, .mov (.t 27)⟩]) (
   .skip)) <|
 .seq (.seq (.reg [⟨some 29, none, .mov (.t 7)⟩,
    ⟨some 30, none, .bin .eql (.t 29) (.c (.int .i64 1))⟩,
    ⟨some 31, none, .mov (.t 30)⟩,
    ⟨some 32, some (31, false), .mov (.t 7)⟩,
    ⟨some 33, some (31, false), .bin .eql (.t 32) (.c (.int .i64 2))⟩,
    ⟨some 34, none, .pick (.t 31) (.c (.bool true)) (.t 33)⟩]) <|
  .ite (.t 34) (
   .seq (.reg [⟨some 35, none, .mov (.t 6)⟩,
     ⟨some 4, none, .mov (.t 35)⟩,
     ⟨some 5, none, .mov (.c (.bool true))⟩]) <|
   .ret) (
   .skip)) <|
 .seq (.reg [⟨some 37, none, .mov (.t 1)⟩,
   ⟨some 38, none, .len true (.t 37)⟩,
   ⟨some 39, none, .mov (.t 0)⟩,
   ⟨some 40, none, .call (.f f_impl_lenDigits) [.t 39] false false⟩,
   ⟨some 41, none, .call (.f f_impl_PutLen) [.t 38, .t 40] true false⟩,
   ⟨some 36, none, .mov (.t 41)⟩,
   ⟨some 42, none, .extr (.t 36) 0⟩,
   ⟨some 43, none, .extr (.t 36) 1⟩,
   ⟨some 8, none, .mov (.t 42)⟩,
   ⟨some 9, none, .mov (.t 43)⟩]) <|
 .seq (.reg [⟨some 44, none, .mov (.t 8)⟩,
   ⟨some 45, none, .mov (.t 6)⟩,
   ⟨some 46, none, .app 1 1 (.t 44) (.t 45)⟩,
   ⟨some 4, none, .mov (.t 46)⟩,
   ⟨some 5, none, .mov (.c (.bool true))⟩]) <|
 .ret⟩
theorem r_impl_PutField {args : List A} {res : R} {outs : List (List O)} (ok : okArgs args = true) (h : Comes PG i_impl_PutField args res outs) : Ret PG f_impl_PutField args res outs :=
  ret_of hmix Tryz.func26 (by kernel_rfl) ok h
theorem p_impl_PutField {args : List A} {Φ : R → List (List O) → Prop} (ok : okArgs args = true) (hl : decide (args.length ≤ i_impl_PutField.ntmps) = true)
    (h : den PG (finQ i_impl_PutField.res args Φ) [.code i_impl_PutField.body] .norm (st i_impl_PutField.ntmps (pairs 0 (entry 0 args).1) (entry 0 args).2)) : ∃ res outs, Ret PG f_impl_PutField args res outs ∧ Φ res outs :=
  (comesP_of hl h).elim fun res h => h.elim fun outs h => ⟨res, outs, r_impl_PutField ok h.1, h.2⟩

def i_impl_PutBcd : IFn := ⟨42, [.t 2, .t 3],
 .seq (.reg [⟨some 2, none, .mov (.c (.z 1))⟩,
   ⟨some 3, none, .mov (.c (.bool false))⟩]) <|
 .seq (.seq (.reg [⟨some 6, none, .mov (.t 0)⟩,
    ⟨some 7, none, .call (.f f_impl_Digits) [.t 6] false false⟩,
    ⟨some 8, none, .un .not (.t 7)⟩,
    ⟨some 9, none, .mov (.t 8)⟩,
    ⟨some 10, some (9, false), .mov (.t 0)⟩,
    ⟨some 11, some (9, false), .len true (.t 10)⟩,
    ⟨some 12, some (9, false), .bin .gtr (.t 11) (.c (.int .i64 38))⟩,
    ⟨some 13, none, .pick (.t 9) (.c (.bool true)) (.t 12)⟩]) <|
  .ite (.t 13) (
   .seq (.reg [⟨some 2, none, .mov (.c (.z 1))⟩,
     ⟨some 3, none, .mov (.c (.bool false))⟩]) <|
   .ret) (
   .skip)) <|
 .seq (.seq (.reg [⟨some 14, none, .mov (.t 0)⟩,
    ⟨some 15, none, .len true (.t 14)⟩,
    ⟨some 16, none, .bin .rem (.t 15) (.c (.int .i64 2))⟩,
    ⟨some 17, none, .bin .eql (.t 16) (.c (.int .i64 1))⟩]) <|
  .ite (.t 17) (
   .reg [⟨some 18, none, .mov (.t 0)⟩,
    ⟨some 19, none, .bin .add (.c (.str [48])) (.t 18)⟩,
    ⟨some 0, none, .mov (.t 19)⟩]) (
   .skip)) <|
 .seq (.reg [⟨some 20, none, .bslice 1 0 (.int .u8 0) []⟩,
   ⟨some 4, none, .mov (.t 20)⟩]) <|
 .seq (.seq (.reg [⟨some 5, none, .mov (.c (.int .i64 0))⟩]) <|
  .blk 0 (
   .loop [0, 4, 5] [] (
    .seq (.seq (.reg [⟨some 21, none, .mov (.t 5)⟩,
       ⟨some 22, none, .mov (.t 0)⟩,
       ⟨some 23, none, .len true (.t 22)⟩,
       ⟨some 24, none, .bin .lss (.t 21) (.t 23)⟩]) <|
     .ite (.t 24) (
      .skip) (
      .exit 0)) <|
    .seq (.blk 1 (
      .draw [⟨some 27, none, .mov (.t 4)⟩,
       ⟨some 28, none, .mov (.t 0)⟩,
       ⟨some 29, none, .mov (.t 5)⟩,
       ⟨some 30, none, .index (.t 28) (.t 29)⟩,
       ⟨some 31, none, .bin .sub (.t 30) (.c (.int .u8 48))⟩,
       ⟨some 32, none, .bin .shl (.t 31) (.c (.int .u64 4))⟩,
       ⟨some 33, none, .mov (.t 0)⟩,
       ⟨some 34, none, .mov (.t 5)⟩,
       ⟨some 35, none, .bin .add (.t 34) (.c (.int .i64 1))⟩,
       ⟨some 36, none, .index (.t 33) (.t 35)⟩,
       ⟨some 37, none, .bin .sub (.t 36) (.c (.int .u8 48))⟩,
       ⟨some 38, none, .bin .or (.t 32) (.t 37)⟩,
       ⟨some 39, none, .bslice 1 1 (.int .u8 0) [(0, .t 38)]⟩,
       ⟨some 40, none, .app 1 1 (.t 27) (.t 39)⟩,
       ⟨some 4, none, .mov (.t 40)⟩] [(0, 1), (0, 2), (1, 2), (0, 3), (0, 4), (0, 5), (0, 6), (1, 6), (2, 6), (3, 6), (4, 6), (5, 6), (0, 7), (1, 7), (2, 7), (3, 7), (4, 7), (5, 7), (6, 7), (0, 8), (1, 8), (2, 8), (3, 8), (4, 8), (5, 8), (6, 8), (0, 9), (1, 9), (2, 9), (3, 9), (4, 9), (5, 9), (0, 10), (1, 10), (2, 10), (3, 10), (4, 10), (5, 10), (0, 11), (0, 12)])) <|
    .reg [⟨some 25, none, .mov (.t 5)⟩,
     ⟨some 26, none, .bin .add (.t 25) (.c (.int .i64 2))⟩,
     ⟨some 5, none, .mov (.t 26)⟩]))) <|
 .seq (.reg [⟨some 41, none, .mov (.t 4)⟩,
   ⟨some 2, none, .mov (.t 41)⟩,
   ⟨some 3, none, .mov (.c (.bool true))⟩]) <|
 .ret⟩
theorem r_impl_PutBcd {args : List A} {res : R} {outs : List (List O)} (ok : okArgs args = true) (h : Comes PG i_impl_PutBcd args res outs) : Ret PG f_impl_PutBcd args res outs :=
  ret_of hmix Tryz.func27 (by kernel_rfl) ok h
theorem p_impl_PutBcd {args : List A} {Φ : R → List (List O) → Prop} (ok : okArgs args = true) (hl : decide (args.length ≤ i_impl_PutBcd.ntmps) = true)
    (h : den PG (finQ i_impl_PutBcd.res args Φ) [.code i_impl_PutBcd.body] .norm (st i_impl_PutBcd.ntmps (pairs 0 (entry 0 args).1) (entry 0 args).2)) : ∃ res outs, Ret PG f_impl_PutBcd args res outs ∧ Φ res outs :=
  (comesP_of hl h).elim fun res h => h.elim fun outs h => ⟨res, outs, r_impl_PutBcd ok h.1, h.2⟩

def i_impl_PutBits : IFn := ⟨29, [.t 2],
 .seq (.reg [⟨some 2, none, .mov (.c (.z 1))⟩]) <|
 .seq (.reg [⟨some 6, none, .mks 1 1 (.int .u8 0) (.c (.int .i64 8)) (.c (.int .i64 8))⟩,
   ⟨some 3, none, .mov (.t 6)⟩]) <|
 .seq (.seq (.reg [⟨some 7, none, .mov (.t 0)⟩,
    ⟨some 8, none, .len false (.t 7)⟩,
    ⟨some 9, none, .mov (.c (.int .i64 0))⟩]) <|
  .blk 0 (
   .loop [3, 7, 8, 9] [] (
    .seq (.reg [⟨some 10, none, .bin .lss (.t 9) (.t 8)⟩]) <|
    .seq (.ite (.t 10) (
      .skip) (
      .exit 0)) <|
    .seq (.blk 1 (
      .seq (.reg [⟨some 11, none, .iaddr 1 (.t 7) (.t 9)⟩,
        ⟨some 12, none, .load false 1 (.t 11)⟩,
        ⟨some 5, none, .mov (.t 12)⟩]) <|
      .seq (.reg [⟨some 13, none, .mov (.t 5)⟩,
        ⟨some 14, none, .call (.f f_impl_within) [.t 13, .c (.int .i64 1), .c (.int .i64 64)] false false⟩]) <|
      .ite (.t 14) (
       .draw [⟨some 15, none, .mov (.t 3)⟩,
        ⟨some 16, none, .mov (.t 5)⟩,
        ⟨some 17, none, .bin .sub (.t 16) (.c (.int .i64 1))⟩,
        ⟨some 18, none, .bin .quo (.t 17) (.c (.int .i64 8))⟩,
        ⟨some 19, none, .iaddr 1 (.t 15) (.t 18)⟩,
        ⟨some 20, none, .load false 1 (.t 19)⟩,
        ⟨some 21, none, .mov (.t 5)⟩,
        ⟨some 22, none, .bin .sub (.t 21) (.c (.int .i64 1))⟩,
        ⟨some 23, none, .bin .rem (.t 22) (.c (.int .i64 8))⟩,
        ⟨some 24, none, .bin .shr (.c (.int .u8 128)) (.t 23)⟩,
        ⟨some 25, none, .bin .or (.t 20) (.t 24)⟩,
        ⟨some 26, none, .iaddr 1 (.t 15) (.t 18)⟩,
        ⟨none, none, .store 1 (.t 26) (.t 25)⟩] [(0, 1), (0, 2), (0, 3), (0, 6), (1, 6), (2, 6), (3, 6), (4, 6), (5, 6), (0, 7), (1, 7), (2, 7), (3, 7), (4, 7), (5, 7), (0, 8), (1, 8), (2, 8), (3, 8), (4, 8), (5, 8), (0, 9), (1, 9), (2, 9), (3, 9), (4, 9), (5, 9)]) (
       .skip))) <|
    .reg [⟨some 27, none, .bin .add (.t 9) (.c (.int .i64 1))⟩,
     ⟨some 9, none, .mov (.t 27)⟩]))) <|
 .seq (.reg [⟨some 28, none, .mov (.t 3)⟩,
   ⟨some 2, none, .mov (.t 28)⟩]) <|
 .ret⟩
theorem r_impl_PutBits {args : List A} {res : R} {outs : List (List O)} (ok : okArgs args = true) (h : Comes PG i_impl_PutBits args res outs) : Ret PG f_impl_PutBits args res outs :=
  ret_of hmix Tryz.func28 (by kernel_rfl) ok h
theorem p_impl_PutBits {args : List A} {Φ : R → List (List O) → Prop} (ok : okArgs args = true) (hl : decide (args.length ≤ i_impl_PutBits.ntmps) = true)
    (h : den PG (finQ i_impl_PutBits.res args Φ) [.code i_impl_PutBits.body] .norm (st i_impl_PutBits.ntmps (pairs 0 (entry 0 args).1) (entry 0 args).2)) : ∃ res outs, Ret PG f_impl_PutBits args res outs ∧ Φ res outs :=
  (comesP_of hl h).elim fun res h => h.elim fun outs h => ⟨res, outs, r_impl_PutBits ok h.1, h.2⟩

def i_impl_Parse : IFn := ⟨128, [.cell true 2 2, .t 3],
 .seq (.reg [⟨some 2, none, .alloc [.str [], .z 2]⟩,
   ⟨some 3, none, .mov (.c (.int .i64 0))⟩]) <|
 .seq (.reg [⟨some 22, none, .mov (.t 0)⟩,
   ⟨some 23, none, .call (.f f_impl_GetBcd) [.t 22, .c (.int .i64 0), .c (.int .i64 4)] false false⟩,
   ⟨some 21, none, .mov (.t 23)⟩,
   ⟨some 24, none, .extr (.t 21) 0⟩,
   ⟨some 25, none, .extr (.t 21) 1⟩,
   ⟨some 26, none, .extr (.t 21) 2⟩,
   ⟨some 4, none, .mov (.t 24)⟩,
   ⟨some 5, none, .mov (.t 25)⟩,
   ⟨some 6, none, .mov (.t 26)⟩]) <|
 .seq (.seq (.reg [⟨some 27, none, .mov (.t 6)⟩,
    ⟨some 28, none, .un .not (.t 27)⟩]) <|
  .ite (.t 28) (
   .seq (.reg [⟨some 29, none, .build [.str [], .z 2] []⟩,
     ⟨none, none, .store 2 (.t 2) (.t 29)⟩,
     ⟨some 3, none, .mov (.c (.int .i64 1))⟩]) <|
   .ret) (
   .skip)) <|
 .seq (.reg [⟨some 31, none, .mov (.t 0)⟩,
   ⟨some 32, none, .mov (.t 5)⟩,
   ⟨some 33, none, .call (.f f_impl_GetBits) [.t 31, .t 32] true false⟩,
   ⟨some 30, none, .mov (.t 33)⟩,
   ⟨some 34, none, .extr (.t 30) 0⟩,
   ⟨some 35, none, .extr (.t 30) 1⟩,
   ⟨some 36, none, .extr (.t 30) 2⟩,
   ⟨some 7, none, .mov (.t 34)⟩,
   ⟨some 5, none, .mov (.t 35)⟩,
   ⟨some 6, none, .mov (.t 36)⟩]) <|
 .seq (.seq (.reg [⟨some 37, none, .mov (.t 6)⟩,
    ⟨some 38, none, .un .not (.t 37)⟩]) <|
  .ite (.t 38) (
   .seq (.reg [⟨some 39, none, .build [.str [], .z 2] []⟩,
     ⟨none, none, .store 2 (.t 2) (.t 39)⟩,
     ⟨some 3, none, .mov (.c (.int .i64 2))⟩]) <|
   .ret) (
   .skip)) <|
 .seq (.reg [⟨some 40, none, .bslice 1 0 (.int .i64 0) []⟩,
   ⟨some 8, none, .mov (.t 40)⟩,
   ⟨some 9, none, .mov (.c (.bool false))⟩]) <|
 .seq (.seq (.reg [⟨some 41, none, .mov (.t 7)⟩,
    ⟨some 42, none, .len false (.t 41)⟩,
    ⟨some 43, none, .mov (.c (.int .i64 0))⟩]) <|
  .blk 0 (
   .loop [0, 2, 4, 5, 8, 9, 41, 42, 43] [] (
    .seq (.reg [⟨some 44, none, .bin .lss (.t 43) (.t 42)⟩]) <|
    .seq (.ite (.t 44) (
      .skip) (
      .exit 0)) <|
    .seq (.blk 1 (
      .seq (.reg [⟨some 45, none, .iaddr 1 (.t 41) (.t 43)⟩,
        ⟨some 46, none, .load false 1 (.t 45)⟩,
        ⟨some 11, none, .mov (.t 46)⟩]) <|
      .blk 2 (
       .seq (.reg [⟨some 52, none, .mov (.t 11)⟩,
         ⟨some 53, none, .bin .eql (.t 52) (.c (.int .i64 1))⟩,
         ⟨some 51, none, .mov (.t 53)⟩]) <|
       .ite (.t 51) (
        .reg [⟨some 9, none, .mov (.c (.bool true))⟩]) (
        .seq (.reg [⟨some 55, none, .mov (.t 11)⟩,
          ⟨some 56, none, .call (.f f_impl_FieldKind) [.t 55] false false⟩,
          ⟨some 57, none, .bin .eql (.t 56) (.c (.int .i64 0))⟩,
          ⟨some 54, none, .mov (.t 57)⟩]) <|
        .ite (.t 54) (
         .seq (.reg [⟨some 58, none, .build [.str [], .z 2] []⟩,
           ⟨none, none, .store 2 (.t 2) (.t 58)⟩,
           ⟨some 3, none, .mov (.c (.int .i64 2))⟩]) <|
         .ret) (
         .reg [⟨some 47, none, .mov (.t 8)⟩,
          ⟨some 48, none, .mov (.t 11)⟩,
          ⟨some 49, none, .bslice 1 1 (.int .i64 0) [(0, .t 48)]⟩,
          ⟨some 50, none, .app 1 8 (.t 47) (.t 49)⟩,
          ⟨some 8, none, .mov (.t 50)⟩]))))) <|
    .reg [⟨some 59, none, .bin .add (.t 43) (.c (.int .i64 1))⟩,
     ⟨some 43, none, .mov (.t 59)⟩]))) <|
 .seq (.seq (.reg [⟨some 60, none, .mov (.t 9)⟩]) <|
  .ite (.t 60) (
   .seq (.reg [⟨some 12, none, .mov (.c (.z 1))⟩]) <|
   .seq (.reg [⟨some 62, none, .mov (.t 0)⟩,
     ⟨some 63, none, .mov (.t 5)⟩,
     ⟨some 64, none, .call (.f f_impl_GetBits) [.t 62, .t 63] true false⟩,
     ⟨some 61, none, .mov (.t 64)⟩,
     ⟨some 65, none, .extr (.t 61) 0⟩,
     ⟨some 66, none, .extr (.t 61) 1⟩,
     ⟨some 67, none, .extr (.t 61) 2⟩,
     ⟨some 12, none, .mov (.t 65)⟩,
     ⟨some 5, none, .mov (.t 66)⟩,
     ⟨some 6, none, .mov (.t 67)⟩]) <|
   .seq (.seq (.reg [⟨some 68, none, .mov (.t 6)⟩,
      ⟨some 69, none, .un .not (.t 68)⟩,
      ⟨some 70, none, .mov (.t 69)⟩,
      ⟨some 71, some (70, false), .mov (.t 12)⟩,
      ⟨some 72, some (70, false), .len false (.t 71)⟩,
      ⟨some 73, some (70, false), .bin .eql (.t 72) (.c (.int .i64 0))⟩,
      ⟨some 74, none, .pick (.t 70) (.c (.bool true)) (.t 73)⟩]) <|
    .ite (.t 74) (
     .seq (.reg [⟨some 75, none, .build [.str [], .z 2] []⟩,
       ⟨none, none, .store 2 (.t 2) (.t 75)⟩,
       ⟨some 3, none, .mov (.c (.int .i64 2))⟩]) <|
     .ret) (
     .skip)) <|
   .seq (.reg [⟨some 76, none, .mov (.t 12)⟩,
     ⟨some 77, none, .len false (.t 76)⟩,
     ⟨some 78, none, .mov (.c (.int .i64 0))⟩]) <|
   .blk 3 (
    .loop [0, 2, 4, 5, 8, 76, 77, 78] [] (
     .seq (.reg [⟨some 79, none, .bin .lss (.t 78) (.t 77)⟩]) <|
     .seq (.ite (.t 79) (
       .skip) (
       .exit 3)) <|
     .seq (.blk 4 (
       .seq (.reg [⟨some 80, none, .iaddr 1 (.t 76) (.t 78)⟩,
         ⟨some 81, none, .load false 1 (.t 80)⟩,
         ⟨some 14, none, .mov (.t 81)⟩]) <|
       .seq (.seq (.reg [⟨some 82, none, .mov (.t 14)⟩,
          ⟨some 83, none, .bin .add (.t 82) (.c (.int .i64 64))⟩,
          ⟨some 84, none, .call (.f f_impl_FieldKind) [.t 83] false false⟩,
          ⟨some 85, none, .bin .eql (.t 84) (.c (.int .i64 0))⟩]) <|
        .ite (.t 85) (
         .seq (.reg [⟨some 86, none, .build [.str [], .z 2] []⟩,
           ⟨none, none, .store 2 (.t 2) (.t 86)⟩,
           ⟨some 3, none, .mov (.c (.int .i64 2))⟩]) <|
         .ret) (
         .skip)) <|
       .reg [⟨some 87, none, .mov (.t 8)⟩,
        ⟨some 88, none, .mov (.t 14)⟩,
        ⟨some 89, none, .bin .add (.t 88) (.c (.int .i64 64))⟩,
        ⟨some 90, none, .bslice 1 1 (.int .i64 0) [(0, .t 89)]⟩,
        ⟨some 91, none, .app 1 8 (.t 87) (.t 90)⟩,
        ⟨some 8, none, .mov (.t 91)⟩])) <|
     .reg [⟨some 92, none, .bin .add (.t 78) (.c (.int .i64 1))⟩,
      ⟨some 78, none, .mov (.t 92)⟩]))) (
   .skip)) <|
 .seq (.reg [⟨some 93, none, .mov (.t 4)⟩,
   ⟨some 94, none, .build [.str [], .z 2] [(0, 1, .t 93)]⟩,
   ⟨some 15, none, .alloc [.str [], .z 2]⟩,
   ⟨none, none, .store 2 (.t 15) (.t 94)⟩]) <|
 .seq (.seq (.reg [⟨some 95, none, .mov (.t 8)⟩,
    ⟨some 96, none, .len false (.t 95)⟩,
    ⟨some 97, none, .mov (.c (.int .i64 0))⟩]) <|
  .blk 5 (
   .loop [0, 2, 5, 15, 95, 96, 97] [] (
    .seq (.reg [⟨some 98, none, .bin .lss (.t 97) (.t 96)⟩]) <|
    .seq (.ite (.t 98) (
      .skip) (
      .exit 5)) <|
    .seq (.blk 6 (
      .seq (.reg [⟨some 99, none, .iaddr 1 (.t 95) (.t 97)⟩,
        ⟨some 100, none, .load false 1 (.t 99)⟩,
        ⟨some 17, none, .mov (.t 100)⟩]) <|
      .seq (.reg [⟨some 102, none, .mov (.t 0)⟩,
        ⟨some 103, none, .mov (.t 5)⟩,
        ⟨some 104, none, .mov (.t 17)⟩,
        ⟨some 105, none, .call (.f f_impl_GetField) [.t 102, .t 103, .t 104] false false⟩,
        ⟨some 101, none, .mov (.t 105)⟩,
        ⟨some 106, none, .extr (.t 101) 0⟩,
        ⟨some 107, none, .extr (.t 101) 1⟩,
        ⟨some 108, none, .extr (.t 101) 2⟩,
        ⟨some 18, none, .mov (.t 106)⟩,
        ⟨some 19, none, .mov (.t 107)⟩,
        ⟨some 20, none, .mov (.t 108)⟩]) <|
      .seq (.seq (.reg [⟨some 109, none, .mov (.t 20)⟩,
         ⟨some 110, none, .un .not (.t 109)⟩]) <|
       .ite (.t 110) (
        .seq (.reg [⟨some 111, none, .build [.str [], .z 2] []⟩,
          ⟨none, none, .store 2 (.t 2) (.t 111)⟩,
          ⟨some 3, none, .mov (.c (.int .i64 3))⟩]) <|
        .ret) (
        .skip)) <|
      .reg [⟨some 112, none, .faddr 1 (.t 15)⟩,
       ⟨some 113, none, .load false 1 (.t 112)⟩,
       ⟨some 114, none, .mov (.t 17)⟩,
       ⟨some 115, none, .mov (.t 18)⟩,
       ⟨some 116, none, .build [.int .i64 0, .str []] [(0, 1, .t 114), (1, 1, .t 115)]⟩,
       ⟨some 117, none, .bslice 2 1 (.agg [.int .i64 0, .str []]) [(0, .t 116)]⟩,
       ⟨some 118, none, .app 2 24 (.t 113) (.t 117)⟩,
       ⟨some 119, none, .mov (.t 19)⟩,
       ⟨some 120, none, .faddr 1 (.t 15)⟩,
       ⟨none, none, .store 1 (.t 120) (.t 118)⟩,
       ⟨some 5, none, .mov (.t 119)⟩])) <|
    .reg [⟨some 121, none, .bin .add (.t 97) (.c (.int .i64 1))⟩,
     ⟨some 97, none, .mov (.t 121)⟩]))) <|
 .seq (.seq (.reg [⟨some 122, none, .mov (.t 5)⟩,
    ⟨some 123, none, .mov (.t 0)⟩,
    ⟨some 124, none, .len false (.t 123)⟩,
    ⟨some 125, none, .bin .neq (.t 122) (.t 124)⟩]) <|
  .ite (.t 125) (
   .seq (.reg [⟨some 126, none, .build [.str [], .z 2] []⟩,
     ⟨none, none, .store 2 (.t 2) (.t 126)⟩,
     ⟨some 3, none, .mov (.c (.int .i64 4))⟩]) <|
   .ret) (
   .skip)) <|
 .seq (.reg [⟨some 127, none, .load true 2 (.t 15)⟩,
   ⟨none, none, .store 2 (.t 2) (.t 127)⟩,
   ⟨some 3, none, .mov (.c (.int .i64 0))⟩]) <|
 .ret⟩
theorem r_impl_Parse {args : List A} {res : R} {outs : List (List O)} (ok : okArgs args = true) (h : Comes PG i_impl_Parse args res outs) : Ret PG f_impl_Parse args res outs :=
  ret_of hmix Tryz.func29 (by kernel_rfl) ok h
theorem p_impl_Parse {args : List A} {Φ : R → List (List O) → Prop} (ok : okArgs args = true) (hl : decide (args.length ≤ i_impl_Parse.ntmps) = true)
    (h : den PG (finQ i_impl_Parse.res args Φ) [.code i_impl_Parse.body] .norm (st i_impl_Parse.ntmps (pairs 0 (entry 0 args).1) (entry 0 args).2)) : ∃ res outs, Ret PG f_impl_Parse args res outs ∧ Φ res outs :=
  (comesP_of hl h).elim fun res h => h.elim fun outs h => ⟨res, outs, r_impl_Parse ok h.1, h.2⟩

def i_impl_BookOk : IFn := ⟨37, [.t 2],
 .seq (.reg [⟨some 1, none, .box 1 (.t 0)⟩,
   ⟨some 2, none, .mov (.c (.bool false))⟩]) <|
 .seq (.seq (.reg [⟨some 5, none, .faddr 0 (.t 1)⟩,
    ⟨some 6, none, .load false 1 (.t 5)⟩,
    ⟨some 7, none, .len false (.t 6)⟩,
    ⟨some 8, none, .mov (.c (.int .i64 0))⟩]) <|
  .blk 0 (
   .loop [1, 6, 7, 8] [] (
    .seq (.reg [⟨some 9, none, .bin .lss (.t 8) (.t 7)⟩]) <|
    .seq (.ite (.t 9) (
      .skip) (
      .exit 0)) <|
    .seq (.blk 1 (
      .seq (.reg [⟨some 10, none, .mov (.t 8)⟩,
        ⟨some 11, none, .iaddr 11 (.t 6) (.t 8)⟩,
        ⟨some 12, none, .load true 11 (.t 11)⟩,
        ⟨some 4, none, .alloc [.str [], .int .i64 0, .int .i64 0, .int .i64 0, .int .i64 0, .z 3, .int .i64 0, .int .i64 0, .z 1, .z 1, .z 3]⟩,
        ⟨some 3, none, .mov (.t 10)⟩,
        ⟨none, none, .store 11 (.t 4) (.t 12)⟩]) <|
      .seq (.draw [⟨some 13, none, .load true 11 (.t 4)⟩,
        ⟨some 14, none, .call (.f f_impl_AcctOk) [.t 13] false false⟩,
        ⟨some 15, none, .un .not (.t 14)⟩,
        ⟨some 16, none, .mov (.t 15)⟩,
        ⟨some 17, some (16, false), .mov (.t 3)⟩,
        ⟨some 18, some (16, false), .bin .gtr (.t 17) (.c (.int .i64 0))⟩,
        ⟨some 19, some (16, false), .mov (.t 18)⟩,
        ⟨some 20, some (19, true), .faddr 0 (.t 4)⟩,
        ⟨some 21, some (19, true), .load false 1 (.t 20)⟩,
        ⟨some 22, some (19, true), .faddr 0 (.t 1)⟩,
        ⟨some 23, some (19, true), .load false 1 (.t 22)⟩,
        ⟨some 24, some (19, true), .mov (.t 3)⟩,
        ⟨some 25, some (19, true), .bin .sub (.t 24) (.c (.int .i64 1))⟩,
        ⟨some 26, some (19, true), .iaddr 11 (.t 23) (.t 25)⟩,
        ⟨some 27, some (19, true), .faddr 0 (.t 26)⟩,
        ⟨some 28, some (19, true), .load false 1 (.t 27)⟩,
        ⟨some 29, some (19, true), .bin .leq (.t 21) (.t 28)⟩,
        ⟨some 30, some (16, false), .pick (.t 19) (.t 29) (.c (.bool false))⟩,
        ⟨some 31, none, .pick (.t 16) (.c (.bool true)) (.t 30)⟩] [(7, 9), (8, 9), (7, 10), (8, 10), (7, 11), (8, 11), (9, 11), (10, 11), (7, 12), (8, 12), (9, 12), (10, 12), (7, 13), (8, 13), (7, 14), (8, 14), (7, 15), (8, 15)]) <|
      .ite (.t 31) (
       .seq (.reg [⟨some 2, none, .mov (.c (.bool false))⟩]) <|
       .ret) (
       .skip))) <|
    .reg [⟨some 32, none, .bin .add (.t 8) (.c (.int .i64 1))⟩,
     ⟨some 8, none, .mov (.t 32)⟩]))) <|
 .seq (.reg [⟨some 33, none, .faddr 0 (.t 1)⟩,
   ⟨some 34, none, .load false 1 (.t 33)⟩,
   ⟨some 35, none, .len false (.t 34)⟩,
   ⟨some 36, none, .bin .leq (.t 35) (.c (.int .i64 6))⟩,
   ⟨some 2, none, .mov (.t 36)⟩]) <|
 .ret⟩
theorem r_impl_BookOk {args : List A} {res : R} {outs : List (List O)} (ok : okArgs args = true) (h : Comes PG i_impl_BookOk args res outs) : Ret PG f_impl_BookOk args res outs :=
  ret_of hmix Tryz.func30 (by kernel_rfl) ok h
theorem p_impl_BookOk {args : List A} {Φ : R → List (List O) → Prop} (ok : okArgs args = true) (hl : decide (args.length ≤ i_impl_BookOk.ntmps) = true)
    (h : den PG (finQ i_impl_BookOk.res args Φ) [.code i_impl_BookOk.body] .norm (st i_impl_BookOk.ntmps (pairs 0 (entry 0 args).1) (entry 0 args).2)) : ∃ res outs, Ret PG f_impl_BookOk args res outs ∧ Φ res outs :=
  (comesP_of hl h).elim fun res h => h.elim fun outs h => ⟨res, outs, r_impl_BookOk ok h.1, h.2⟩

end
end Go.AW
open Go.Proofs
namespace Go.AW
set_option maxRecDepth 10000
noncomputable section
def i_impl_isTime : IFn := ⟨5, [.t 2],
 .seq (.reg [⟨some 2, none, .mov (.c (.bool false))⟩]) <|
 .seq (.reg [⟨some 3, none, .mov (.t 0)⟩,
   ⟨some 4, none, .call (.f f_impl_within) [.t 3, .c (.int .i64 0), .c (.int .i64 1000000000)] false false⟩,
   ⟨some 2, none, .mov (.t 4)⟩]) <|
 .ret⟩
theorem r_impl_isTime {args : List A} {res : R} {outs : List (List O)} (ok : okArgs args = true) (h : Comes PG i_impl_isTime args res outs) : Ret PG f_impl_isTime args res outs :=
  ret_of hmix Tryz.func31 (by kernel_rfl) ok h
theorem p_impl_isTime {args : List A} {Φ : R → List (List O) → Prop} (ok : okArgs args = true) (hl : decide (args.length ≤ i_impl_isTime.ntmps) = true)
    (h : den PG (finQ i_impl_isTime.res args Φ) [.code i_impl_isTime.body] .norm (st i_impl_isTime.ntmps (pairs 0 (entry 0 args).1) (entry 0 args).2)) : ∃ res outs, Ret PG f_impl_isTime args res outs ∧ Φ res outs :=
  (comesP_of hl h).elim fun res h => h.elim fun outs h => ⟨res, outs, r_impl_isTime ok h.1, h.2⟩

def i_impl_Book_copied : IFn := ⟨5, [.cell true 1 2],
 .seq (.reg [⟨some 1, none, .box 1 (.t 0)⟩,
   ⟨some 2, none, .alloc [.z 11]⟩]) <|
 .seq (.reg [⟨some 3, none, .load true 1 (.t 1)⟩,
   ⟨some 4, none, .call (.f f_impl_Book_each) [.t 3, .f f_impl_Acct_copied] true false⟩,
   ⟨none, none, .store 1 (.t 2) (.t 4)⟩]) <|
 .ret⟩
theorem r_impl_Book_copied {args : List A} {res : R} {outs : List (List O)} (ok : okArgs args = true) (h : Comes PG i_impl_Book_copied args res outs) : Ret PG f_impl_Book_copied args res outs :=
  ret_of hmix Tryz.func32 (by kernel_rfl) ok h
theorem p_impl_Book_copied {args : List A} {Φ : R → List (List O) → Prop} (ok : okArgs args = true) (hl : decide (args.length ≤ i_impl_Book_copied.ntmps) = true)
    (h : den PG (finQ i_impl_Book_copied.res args Φ) [.code i_impl_Book_copied.body] .norm (st i_impl_Book_copied.ntmps (pairs 0 (entry 0 args).1) (entry 0 args).2)) : ∃ res outs, Ret PG f_impl_Book_copied args res outs ∧ Φ res outs :=
  (comesP_of hl h).elim fun res h => h.elim fun outs h => ⟨res, outs, r_impl_Book_copied ok h.1, h.2⟩

def i_impl_GetBcd : IFn := ⟨73, [.t 6, .t 7, .t 8],
 .seq (.reg [⟨some 6, none, .mov (.c (.str []))⟩,
   ⟨some 7, none, .mov (.c (.int .i64 0))⟩,
   ⟨some 8, none, .mov (.c (.bool false))⟩]) <|
 .seq (.seq (.reg [⟨some 14, none, .mov (.t 2)⟩,
    ⟨some 15, none, .call (.f f_impl_within) [.t 14, .c (.int .i64 1), .c (.int .i64 38)] false false⟩,
    ⟨some 16, none, .un .not (.t 15)⟩]) <|
  .ite (.t 16) (
   .seq (.reg [⟨some 6, none, .mov (.c (.str []))⟩,
     ⟨some 7, none, .mov (.c (.int .i64 0))⟩,
     ⟨some 8, none, .mov (.c (.bool false))⟩]) <|
   .ret) (
   .skip)) <|
 .seq (.reg [⟨some 18, none, .mov (.t 0)⟩,
   ⟨some 19, none, .mov (.t 1)⟩,
   ⟨some 20, none, .mov (.t 2)⟩,
   ⟨some 21, none, .bin .add (.t 20) (.c (.int .i64 1))⟩,
   ⟨some 22, none, .bin .quo (.t 21) (.c (.int .i64 2))⟩,
   ⟨some 23, none, .call (.f f_impl_piece) [.t 18, .t 19, .t 22] true false⟩,
   ⟨some 17, none, .mov (.t 23)⟩,
   ⟨some 24, none, .extr (.t 17) 0⟩,
   ⟨some 25, none, .extr (.t 17) 1⟩,
   ⟨some 9, none, .mov (.t 24)⟩,
   ⟨some 10, none, .mov (.t 25)⟩]) <|
 .seq (.reg [⟨some 26, none, .bslice 1 0 (.int .u8 0) []⟩,
   ⟨some 11, none, .mov (.t 26)⟩]) <|
 .seq (.seq (.reg [⟨some 27, none, .mov (.t 9)⟩,
    ⟨some 28, none, .len false (.t 27)⟩,
    ⟨some 29, none, .mov (.c (.int .i64 0))⟩]) <|
  .blk 0 (
   .loop [1, 2, 9, 10, 11, 27, 28, 29] [] (
    .seq (.reg [⟨some 30, none, .bin .lss (.t 29) (.t 28)⟩]) <|
    .seq (.ite (.t 30) (
      .skip) (
      .exit 0)) <|
    .seq (.blk 1 (
      .seq (.reg [⟨some 31, none, .iaddr 1 (.t 27) (.t 29)⟩,
        ⟨some 32, none, .load false 1 (.t 31)⟩,
        ⟨some 13, none, .mov (.t 32)⟩]) <|
      .reg [⟨some 33, none, .mov (.t 11)⟩,
       ⟨some 34, none, .mov (.t 13)⟩,
       ⟨some 35, none, .bin .shr (.t 34) (.c (.int .u64 4))⟩,
       ⟨some 36, none, .bin .add (.c (.int .u8 48)) (.t 35)⟩,
       ⟨some 37, none, .mov (.t 13)⟩,
       ⟨some 38, none, .bin .and (.t 37) (.c (.int .u8 15))⟩,
       ⟨some 39, none, .bin .add (.c (.int .u8 48)) (.t 38)⟩,
       ⟨some 40, none, .bslice 1 2 (.int .u8 0) [(0, .t 36), (1, .t 39)]⟩,
       ⟨some 41, none, .app 1 1 (.t 33) (.t 40)⟩,
       ⟨some 11, none, .mov (.t 41)⟩])) <|
    .reg [⟨some 42, none, .bin .add (.t 29) (.c (.int .i64 1))⟩,
     ⟨some 29, none, .mov (.t 42)⟩]))) <|
 .seq (.seq (.reg [⟨some 43, none, .mov (.t 10)⟩,
    ⟨some 44, none, .un .not (.t 43)⟩,
    ⟨some 45, none, .mov (.t 44)⟩,
    ⟨some 46, some (45, false), .mov (.t 11)⟩,
    ⟨some 47, some (45, false), .conv .bytesStr (.t 46)⟩,
    ⟨some 48, some (45, false), .call (.f f_impl_Digits) [.t 47] false false⟩,
    ⟨some 49, some (45, false), .un .not (.t 48)⟩,
    ⟨some 50, none, .pick (.t 45) (.c (.bool true)) (.t 49)⟩,
    ⟨some 51, none, .mov (.t 50)⟩,
    ⟨some 52, some (51, false), .mov (.t 2)⟩,
    ⟨some 53, some (51, false), .bin .rem (.t 52) (.c (.int .i64 2))⟩,
    ⟨some 54, some (51, false), .bin .eql (.t 53) (.c (.int .i64 1))⟩,
    ⟨some 55, some (51, false), .mov (.t 54)⟩,
    ⟨some 56, some (55, true), .mov (.t 11)⟩,
    ⟨some 57, some (55, true), .iaddr 1 (.t 56) (.c (.int .i64 0))⟩,
    ⟨some 58, some (55, true), .load false 1 (.t 57)⟩,
    ⟨some 59, some (55, true), .bin .neq (.t 58) (.c (.int .u8 48))⟩,
    ⟨some 60, some (51, false), .pick (.t 55) (.t 59) (.c (.bool false))⟩,
    ⟨some 61, none, .pick (.t 51) (.c (.bool true)) (.t 60)⟩]) <|
  .ite (.t 61) (
   .seq (.reg [⟨some 6, none, .mov (.c (.str []))⟩,
     ⟨some 7, none, .mov (.c (.int .i64 0))⟩,
     ⟨some 8, none, .mov (.c (.bool false))⟩]) <|
   .ret) (
   .skip)) <|
 .seq (.reg [⟨some 62, none, .mov (.t 11)⟩,
   ⟨some 63, none, .mov (.t 11)⟩,
   ⟨some 64, none, .len false (.t 63)⟩,
   ⟨some 65, none, .mov (.t 2)⟩,
   ⟨some 66, none, .bin .sub (.t 64) (.t 65)⟩,
   ⟨some 67, none, .slice 1 (.t 62) (some (.t 66)) none⟩,
   ⟨some 68, none, .conv .bytesStr (.t 67)⟩,
   ⟨some 69, none, .mov (.t 1)⟩,
   ⟨some 70, none, .mov (.t 9)⟩,
   ⟨some 71, none, .len false (.t 70)⟩,
   ⟨some 72, none, .bin .add (.t 69) (.t 71)⟩,
   ⟨some 6, none, .mov (.t 68)⟩,
   ⟨some 7, none, .mov (.t 72)⟩,
   ⟨some 8, none, .mov (.c (.bool true))⟩]) <|
 .ret⟩
theorem r_impl_GetBcd {args : List A} {res : R} {outs : List (List O)} (ok : okArgs args = true) (h : Comes PG i_impl_GetBcd args res outs) : Ret PG f_impl_GetBcd args res outs :=
  ret_of hmix Tryz.func33 (by kernel_rfl) ok h
theorem p_impl_GetBcd {args : List A} {Φ : R → List (List O) → Prop} (ok : okArgs args = true) (hl : decide (args.length ≤ i_impl_GetBcd.ntmps) = true)
    (h : den PG (finQ i_impl_GetBcd.res args Φ) [.code i_impl_GetBcd.body] .norm (st i_impl_GetBcd.ntmps (pairs 0 (entry 0 args).1) (entry 0 args).2)) : ∃ res outs, Ret PG f_impl_GetBcd args res outs ∧ Φ res outs :=
  (comesP_of hl h).elim fun res h => h.elim fun outs h => ⟨res, outs, r_impl_GetBcd ok h.1, h.2⟩

def i_impl_ReplyMti : IFn := ⟨24, [.t 2],
 .seq (.reg [⟨some 2, none, .mov (.c (.str []))⟩]) <|
 .seq (.seq (.reg [⟨some 3, none, .mov (.t 0)⟩,
    ⟨some 4, none, .call (.f f_impl_isWide) [.t 3, .c (.int .i64 4)] false false⟩,
    ⟨some 5, none, .un .not (.t 4)⟩,
    ⟨some 6, none, .mov (.t 5)⟩,
    ⟨some 7, some (6, false), .mov (.t 0)⟩,
    ⟨some 8, some (6, false), .index (.t 7) (.c (.int .i64 2))⟩,
    ⟨some 9, some (6, false), .bin .sub (.t 8) (.c (.int .u8 48))⟩,
    ⟨some 10, some (6, false), .bin .rem (.t 9) (.c (.int .u8 2))⟩,
    ⟨some 11, some (6, false), .bin .eql (.t 10) (.c (.int .u8 1))⟩,
    ⟨some 12, none, .pick (.t 6) (.c (.bool true)) (.t 11)⟩]) <|
  .ite (.t 12) (
   .seq (.reg [⟨some 2, none, .mov (.c (.str []))⟩]) <|
   .ret) (
   .skip)) <|
 .seq (.draw [⟨some 13, none, .mov (.t 0)⟩,
   ⟨some 14, none, .sstr (.t 13) none (some (.c (.int .i64 2)))⟩,
   ⟨some 15, none, .mov (.t 0)⟩,
   ⟨some 16, none, .index (.t 15) (.c (.int .i64 2))⟩,
   ⟨some 17, none, .bin .add (.t 16) (.c (.int .u8 1))⟩,
   ⟨some 18, none, .conv (.int .i32) (.t 17)⟩,
   ⟨some 19, none, .conv .runeStr (.t 18)⟩,
   ⟨some 20, none, .bin .add (.t 14) (.t 19)⟩,
   ⟨some 21, none, .mov (.t 0)⟩,
   ⟨some 22, none, .sstr (.t 21) (some (.c (.int .i64 3))) none⟩,
   ⟨some 23, none, .bin .add (.t 20) (.t 22)⟩,
   ⟨some 2, none, .mov (.t 23)⟩] [(0, 2), (1, 2), (0, 3), (1, 3), (0, 4), (1, 4), (0, 5), (1, 5), (0, 6), (1, 6), (0, 8), (1, 8), (2, 8), (3, 8), (4, 8), (5, 8), (6, 8), (7, 8), (0, 9), (1, 9), (2, 9), (3, 9), (4, 9), (5, 9), (6, 9), (7, 9)]) <|
 .ret⟩
theorem r_impl_ReplyMti {args : List A} {res : R} {outs : List (List O)} (ok : okArgs args = true) (h : Comes PG i_impl_ReplyMti args res outs) : Ret PG f_impl_ReplyMti args res outs :=
  ret_of hmix Tryz.func34 (by kernel_rfl) ok h
theorem p_impl_ReplyMti {args : List A} {Φ : R → List (List O) → Prop} (ok : okArgs args = true) (hl : decide (args.length ≤ i_impl_ReplyMti.ntmps) = true)
    (h : den PG (finQ i_impl_ReplyMti.res args Φ) [.code i_impl_ReplyMti.body] .norm (st i_impl_ReplyMti.ntmps (pairs 0 (entry 0 args).1) (entry 0 args).2)) : ∃ res outs, Ret PG f_impl_ReplyMti args res outs ∧ Φ res outs :=
  (comesP_of hl h).elim fun res h => h.elim fun outs h => ⟨res, outs, r_impl_ReplyMti ok h.1, h.2⟩

def i_impl_ReqOf : IFn := ⟨96, [.cell true 8 2, .t 3],
 .seq (.reg [⟨some 1, none, .box 2 (.t 0)⟩,
   ⟨some 2, none, .alloc [.int .i64 0, .str [], .str [], .str [], .str [], .str [], .int .i64 0, .int .i64 0]⟩,
   ⟨some 3, none, .mov (.c (.int .i64 0))⟩]) <|
 .seq (.seq (.reg [⟨some 11, none, .load true 2 (.t 1)⟩,
    ⟨some 12, none, .call (.f f_impl_MsgOk) [.t 11] false false⟩,
    ⟨some 13, none, .un .not (.t 12)⟩]) <|
  .ite (.t 13) (
   .seq (.reg [⟨some 14, none, .build [.int .i64 0, .str [], .str [], .str [], .str [], .str [], .int .i64 0, .int .i64 0] []⟩,
     ⟨none, none, .store 8 (.t 2) (.t 14)⟩,
     ⟨some 3, none, .mov (.c (.int .i64 1))⟩]) <|
   .ret) (
   .skip)) <|
 .seq (.seq (.reg [⟨some 15, none, .faddr 0 (.t 1)⟩,
    ⟨some 16, none, .load false 1 (.t 15)⟩,
    ⟨some 17, none, .call (.f f_impl_MtiKnown) [.t 16] false false⟩,
    ⟨some 18, none, .un .not (.t 17)⟩]) <|
  .ite (.t 18) (
   .seq (.reg [⟨some 19, none, .build [.int .i64 0, .str [], .str [], .str [], .str [], .str [], .int .i64 0, .int .i64 0] []⟩,
     ⟨none, none, .store 8 (.t 2) (.t 19)⟩,
     ⟨some 3, none, .mov (.c (.int .i64 2))⟩]) <|
   .ret) (
   .skip)) <|
 .seq (.reg [⟨some 21, none, .load true 2 (.t 1)⟩,
   ⟨some 22, none, .call (.f f_impl_FieldOf) [.t 21, .c (.int .i64 3)] false false⟩,
   ⟨some 20, none, .mov (.t 22)⟩,
   ⟨some 23, none, .extr (.t 20) 0⟩,
   ⟨some 24, none, .extr (.t 20) 1⟩,
   ⟨some 4, none, .alloc [.str []]⟩,
   ⟨none, none, .store 1 (.t 4) (.t 23)⟩,
   ⟨some 5, none, .mov (.t 24)⟩]) <|
 .seq (.seq (.reg [⟨some 25, none, .mov (.t 5)⟩,
    ⟨some 26, none, .un .not (.t 25)⟩]) <|
  .ite (.t 26) (
   .seq (.reg [⟨some 27, none, .build [.int .i64 0, .str [], .str [], .str [], .str [], .str [], .int .i64 0, .int .i64 0] []⟩,
     ⟨none, none, .store 8 (.t 2) (.t 27)⟩,
     ⟨some 3, none, .mov (.c (.int .i64 1))⟩]) <|
   .ret) (
   .skip)) <|
 .seq (.reg [⟨some 28, none, .faddr 0 (.t 1)⟩,
   ⟨some 29, none, .load false 1 (.t 28)⟩,
   ⟨some 30, none, .build [.int .i64 0, .str [], .str [], .str [], .str [], .str [], .int .i64 0, .int .i64 0] [(5, 1, .t 29)]⟩,
   ⟨some 6, none, .alloc [.int .i64 0, .str [], .str [], .str [], .str [], .str [], .int .i64 0, .int .i64 0]⟩,
   ⟨none, none, .store 8 (.t 6) (.t 30)⟩]) <|
 .seq (.reg [⟨some 31, none, .call (.f f_impl_opRows) [] false false⟩,
   ⟨some 32, none, .fn f_impl_ReqOf_1 [.t 1, .t 4]⟩,
   ⟨some 33, none, .call (.f f_slices_IndexFunc_impl_opRow_impl_opRow) [.t 31, .t 32] false false⟩,
   ⟨some 34, none, .bin .add (.c (.int .i64 1)) (.t 33)⟩,
   ⟨some 35, none, .faddr 0 (.t 6)⟩,
   ⟨none, none, .store 1 (.t 35) (.t 34)⟩]) <|
 .seq (.seq (.reg [⟨some 36, none, .bslice 1 2 (.int .i64 0) [(0, .c (.int .i64 2)), (1, .c (.int .i64 11))]⟩,
    ⟨some 37, none, .faddr 0 (.t 6)⟩,
    ⟨some 38, none, .load false 1 (.t 37)⟩,
    ⟨some 39, none, .call (.f f_impl_opOf) [.t 38] true false⟩,
    ⟨some 40, none, .field false 3 1 (.t 39)⟩,
    ⟨some 41, none, .app 1 8 (.t 36) (.t 40)⟩,
    ⟨some 42, none, .len false (.t 41)⟩,
    ⟨some 43, none, .mov (.c (.int .i64 0))⟩]) <|
  .blk 0 (
   .loop [1, 2, 6, 41, 42, 43] [] (
    .seq (.reg [⟨some 44, none, .bin .lss (.t 43) (.t 42)⟩]) <|
    .seq (.ite (.t 44) (
      .skip) (
      .exit 0)) <|
    .seq (.blk 1 (
      .seq (.reg [⟨some 45, none, .iaddr 1 (.t 41) (.t 43)⟩,
        ⟨some 46, none, .load false 1 (.t 45)⟩,
        ⟨some 8, none, .mov (.t 46)⟩]) <|
      .seq (.reg [⟨some 48, none, .load true 2 (.t 1)⟩,
        ⟨some 49, none, .mov (.t 8)⟩,
        ⟨some 50, none, .call (.f f_impl_FieldOf) [.t 48, .t 49] false false⟩,
        ⟨some 47, none, .mov (.t 50)⟩,
        ⟨some 51, none, .extr (.t 47) 0⟩,
        ⟨some 52, none, .extr (.t 47) 1⟩,
        ⟨some 9, none, .mov (.t 51)⟩,
        ⟨some 10, none, .mov (.t 52)⟩]) <|
      .seq (.seq (.reg [⟨some 53, none, .mov (.t 10)⟩,
         ⟨some 54, none, .un .not (.t 53)⟩]) <|
       .ite (.t 54) (
        .seq (.reg [⟨some 55, none, .build [.int .i64 0, .str [], .str [], .str [], .str [], .str [], .int .i64 0, .int .i64 0] []⟩,
          ⟨none, none, .store 8 (.t 2) (.t 55)⟩,
          ⟨some 3, none, .mov (.c (.int .i64 1))⟩]) <|
        .ret) (
        .skip)) <|
      .seq (.reg [⟨some 56, none, .mov (.t 8)⟩]) <|
      .blk 2 (
       .seq (.reg [⟨some 58, none, .bin .eql (.t 56) (.c (.int .i64 2))⟩,
         ⟨some 57, none, .mov (.t 58)⟩]) <|
       .ite (.t 57) (
        .reg [⟨some 59, none, .mov (.t 9)⟩,
         ⟨some 60, none, .faddr 1 (.t 6)⟩,
         ⟨none, none, .store 1 (.t 60) (.t 59)⟩]) (
        .seq (.reg [⟨some 62, none, .bin .eql (.t 56) (.c (.int .i64 4))⟩,
          ⟨some 61, none, .mov (.t 62)⟩]) <|
        .ite (.t 61) (
         .reg [⟨some 64, none, .mov (.t 9)⟩,
          ⟨some 65, none, .call (.f f_impl_Narrow) [.t 64] false false⟩,
          ⟨some 63, none, .mov (.t 65)⟩,
          ⟨some 66, none, .extr (.t 63) 0⟩,
          ⟨some 67, none, .extr (.t 63) 1⟩,
          ⟨some 68, none, .faddr 6 (.t 6)⟩,
          ⟨none, none, .store 1 (.t 68) (.t 66)⟩]) (
         .seq (.reg [⟨some 70, none, .bin .eql (.t 56) (.c (.int .i64 11))⟩,
           ⟨some 69, none, .mov (.t 70)⟩]) <|
         .ite (.t 69) (
          .reg [⟨some 71, none, .mov (.t 9)⟩,
           ⟨some 72, none, .faddr 4 (.t 6)⟩,
           ⟨none, none, .store 1 (.t 72) (.t 71)⟩]) (
          .seq (.reg [⟨some 74, none, .bin .eql (.t 56) (.c (.int .i64 14))⟩,
            ⟨some 73, none, .mov (.t 74)⟩]) <|
          .ite (.t 73) (
           .reg [⟨some 76, none, .mov (.t 9)⟩,
            ⟨some 77, none, .call (.f f_impl_Narrow) [.t 76] false false⟩,
            ⟨some 75, none, .mov (.t 77)⟩,
            ⟨some 78, none, .extr (.t 75) 0⟩,
            ⟨some 79, none, .extr (.t 75) 1⟩,
            ⟨some 80, none, .faddr 7 (.t 6)⟩,
            ⟨none, none, .store 1 (.t 80) (.t 78)⟩]) (
           .seq (.reg [⟨some 82, none, .bin .eql (.t 56) (.c (.int .i64 38))⟩,
             ⟨some 81, none, .mov (.t 82)⟩]) <|
           .ite (.t 81) (
            .reg [⟨some 83, none, .mov (.t 9)⟩,
             ⟨some 84, none, .call (.f f_impl_FieldBare) [.t 83] false false⟩,
             ⟨some 85, none, .faddr 3 (.t 6)⟩,
             ⟨none, none, .store 1 (.t 85) (.t 84)⟩]) (
            .seq (.reg [⟨some 87, none, .bin .eql (.t 56) (.c (.int .i64 103))⟩,
              ⟨some 86, none, .mov (.t 87)⟩]) <|
            .ite (.t 86) (
             .reg [⟨some 88, none, .mov (.t 9)⟩,
              ⟨some 89, none, .faddr 2 (.t 6)⟩,
              ⟨none, none, .store 1 (.t 89) (.t 88)⟩]) (
             .skip))))))))) <|
    .reg [⟨some 90, none, .bin .add (.t 43) (.c (.int .i64 1))⟩,
     ⟨some 43, none, .mov (.t 90)⟩]))) <|
 .seq (.seq (.reg [⟨some 91, none, .load true 8 (.t 6)⟩,
    ⟨some 92, none, .call (.f f_impl_ReqOk) [.t 91] false false⟩,
    ⟨some 93, none, .un .not (.t 92)⟩]) <|
  .ite (.t 93) (
   .seq (.reg [⟨some 94, none, .build [.int .i64 0, .str [], .str [], .str [], .str [], .str [], .int .i64 0, .int .i64 0] []⟩,
     ⟨none, none, .store 8 (.t 2) (.t 94)⟩,
     ⟨some 3, none, .mov (.c (.int .i64 1))⟩]) <|
   .ret) (
   .skip)) <|
 .seq (.reg [⟨some 95, none, .load true 8 (.t 6)⟩,
   ⟨none, none, .store 8 (.t 2) (.t 95)⟩,
   ⟨some 3, none, .mov (.c (.int .i64 0))⟩]) <|
 .ret⟩
theorem r_impl_ReqOf {args : List A} {res : R} {outs : List (List O)} (ok : okArgs args = true) (h : Comes PG i_impl_ReqOf args res outs) : Ret PG f_impl_ReqOf args res outs :=
  ret_of hmix Tryz.func36 (by kernel_rfl) ok h
theorem p_impl_ReqOf {args : List A} {Φ : R → List (List O) → Prop} (ok : okArgs args = true) (hl : decide (args.length ≤ i_impl_ReqOf.ntmps) = true)
    (h : den PG (finQ i_impl_ReqOf.res args Φ) [.code i_impl_ReqOf.body] .norm (st i_impl_ReqOf.ntmps (pairs 0 (entry 0 args).1) (entry 0 args).2)) : ∃ res outs, Ret PG f_impl_ReqOf args res outs ∧ Φ res outs :=
  (comesP_of hl h).elim fun res h => h.elim fun outs h => ⟨res, outs, r_impl_ReqOf ok h.1, h.2⟩

def i_impl_replied : IFn := ⟨27, [.t 8],
 .seq (.reg [⟨some 4, none, .box 2 (.t 0)⟩,
   ⟨some 8, none, .mov (.c (.z 1))⟩]) <|
 .seq (.reg [⟨some 14, none, .load true 2 (.t 4)⟩,
   ⟨some 15, none, .mov (.t 1)⟩,
   ⟨some 16, none, .mov (.t 2)⟩,
   ⟨some 17, none, .mov (.t 3)⟩,
   ⟨some 18, none, .call (.f f_impl_Reply) [.t 14, .t 15, .t 16, .t 17] false false⟩,
   ⟨some 13, none, .mov (.t 18)⟩,
   ⟨some 19, none, .extr (.t 13) 0⟩,
   ⟨some 20, none, .extr (.t 13) 1⟩,
   ⟨some 9, none, .alloc [.str [], .z 2]⟩,
   ⟨none, none, .store 2 (.t 9) (.t 19)⟩,
   ⟨some 10, none, .mov (.t 20)⟩]) <|
 .seq (.reg [⟨some 22, none, .load true 2 (.t 9)⟩,
   ⟨some 23, none, .call (.f f_impl_Encode) [.t 22] true false⟩,
   ⟨some 21, none, .mov (.t 23)⟩,
   ⟨some 24, none, .extr (.t 21) 0⟩,
   ⟨some 25, none, .extr (.t 21) 1⟩,
   ⟨some 11, none, .mov (.t 24)⟩,
   ⟨some 12, none, .mov (.t 25)⟩]) <|
 .seq (.reg [⟨some 26, none, .mov (.t 11)⟩,
   ⟨some 8, none, .mov (.t 26)⟩]) <|
 .ret⟩
theorem r_impl_replied {args : List A} {res : R} {outs : List (List O)} (ok : okArgs args = true) (h : Comes PG i_impl_replied args res outs) : Ret PG f_impl_replied args res outs :=
  ret_of hmix Tryz.func37 (by kernel_rfl) ok h
theorem p_impl_replied {args : List A} {Φ : R → List (List O) → Prop} (ok : okArgs args = true) (hl : decide (args.length ≤ i_impl_replied.ntmps) = true)
    (h : den PG (finQ i_impl_replied.res args Φ) [.code i_impl_replied.body] .norm (st i_impl_replied.ntmps (pairs 0 (entry 0 args).1) (entry 0 args).2)) : ∃ res outs, Ret PG f_impl_replied args res outs ∧ Φ res outs :=
  (comesP_of hl h).elim fun res h => h.elim fun outs h => ⟨res, outs, r_impl_replied ok h.1, h.2⟩

def i_impl_SlotOf : IFn := ⟨21, [.t 6, .t 7],
 .seq (.reg [⟨some 6, none, .mov (.c (.z 1))⟩,
   ⟨some 7, none, .mov (.c (.bool false))⟩]) <|
 .seq (.reg [⟨some 9, none, .mov (.t 0)⟩,
   ⟨some 10, none, .mov (.t 1)⟩,
   ⟨some 11, none, .mov (.t 2)⟩,
   ⟨some 12, none, .call (.f f_impl_slotAt) [.t 9, .t 10, .t 11] false false⟩,
   ⟨some 8, none, .mov (.t 12)⟩]) <|
 .seq (.seq (.reg [⟨some 13, none, .mov (.t 8)⟩,
    ⟨some 14, none, .bin .lss (.t 13) (.c (.int .i64 0))⟩]) <|
  .ite (.t 14) (
   .seq (.reg [⟨some 6, none, .mov (.c (.z 1))⟩,
     ⟨some 7, none, .mov (.c (.bool false))⟩]) <|
   .ret) (
   .skip)) <|
 .seq (.reg [⟨some 15, none, .mov (.t 0)⟩,
   ⟨some 16, none, .mov (.t 8)⟩,
   ⟨some 17, none, .iaddr 3 (.t 15) (.t 16)⟩,
   ⟨some 18, none, .faddr 2 (.t 17)⟩,
   ⟨some 19, none, .load false 1 (.t 18)⟩,
   ⟨some 20, none, .call (.f f_slices_Clone_byte_byte) [.t 19] true false⟩,
   ⟨some 6, none, .mov (.t 20)⟩,
   ⟨some 7, none, .mov (.c (.bool true))⟩]) <|
 .ret⟩
theorem r_impl_SlotOf {args : List A} {res : R} {outs : List (List O)} (ok : okArgs args = true) (h : Comes PG i_impl_SlotOf args res outs) : Ret PG f_impl_SlotOf args res outs :=
  ret_of hmix Tryz.func38 (by kernel_rfl) ok h
theorem p_impl_SlotOf {args : List A} {Φ : R → List (List O) → Prop} (ok : okArgs args = true) (hl : decide (args.length ≤ i_impl_SlotOf.ntmps) = true)
    (h : den PG (finQ i_impl_SlotOf.res args Φ) [.code i_impl_SlotOf.body] .norm (st i_impl_SlotOf.ntmps (pairs 0 (entry 0 args).1) (entry 0 args).2)) : ∃ res outs, Ret PG f_impl_SlotOf args res outs ∧ Φ res outs :=
  (comesP_of hl h).elim fun res h => h.elim fun outs h => ⟨res, outs, r_impl_SlotOf ok h.1, h.2⟩

def i_impl_FieldOf : IFn := ⟨22, [.t 4, .t 5],
 .seq (.reg [⟨some 2, none, .box 2 (.t 0)⟩,
   ⟨some 4, none, .mov (.c (.str []))⟩,
   ⟨some 5, none, .mov (.c (.bool false))⟩]) <|
 .seq (.seq (.reg [⟨some 8, none, .faddr 1 (.t 2)⟩,
    ⟨some 9, none, .load false 1 (.t 8)⟩,
    ⟨some 10, none, .len false (.t 9)⟩,
    ⟨some 11, none, .mov (.c (.int .i64 0))⟩]) <|
  .blk 0 (
   .loop [1, 9, 10, 11] [] (
    .seq (.reg [⟨some 12, none, .bin .lss (.t 11) (.t 10)⟩]) <|
    .seq (.ite (.t 12) (
      .skip) (
      .exit 0)) <|
    .seq (.blk 1 (
      .seq (.reg [⟨some 13, none, .iaddr 2 (.t 9) (.t 11)⟩,
        ⟨some 14, none, .load true 2 (.t 13)⟩,
        ⟨some 7, none, .alloc [.int .i64 0, .str []]⟩,
        ⟨none, none, .store 2 (.t 7) (.t 14)⟩]) <|
      .seq (.reg [⟨some 15, none, .faddr 0 (.t 7)⟩,
        ⟨some 16, none, .load false 1 (.t 15)⟩,
        ⟨some 17, none, .mov (.t 1)⟩,
        ⟨some 18, none, .bin .eql (.t 16) (.t 17)⟩]) <|
      .ite (.t 18) (
       .seq (.reg [⟨some 19, none, .faddr 1 (.t 7)⟩,
         ⟨some 20, none, .load false 1 (.t 19)⟩,
         ⟨some 4, none, .mov (.t 20)⟩,
         ⟨some 5, none, .mov (.c (.bool true))⟩]) <|
       .ret) (
       .skip))) <|
    .reg [⟨some 21, none, .bin .add (.t 11) (.c (.int .i64 1))⟩,
     ⟨some 11, none, .mov (.t 21)⟩]))) <|
 .seq (.reg [⟨some 4, none, .mov (.c (.str []))⟩,
   ⟨some 5, none, .mov (.c (.bool false))⟩]) <|
 .ret⟩
theorem r_impl_FieldOf {args : List A} {res : R} {outs : List (List O)} (ok : okArgs args = true) (h : Comes PG i_impl_FieldOf args res outs) : Ret PG f_impl_FieldOf args res outs :=
  ret_of hmix Tryz.func41 (by kernel_rfl) ok h
theorem p_impl_FieldOf {args : List A} {Φ : R → List (List O) → Prop} (ok : okArgs args = true) (hl : decide (args.length ≤ i_impl_FieldOf.ntmps) = true)
    (h : den PG (finQ i_impl_FieldOf.res args Φ) [.code i_impl_FieldOf.body] .norm (st i_impl_FieldOf.ntmps (pairs 0 (entry 0 args).1) (entry 0 args).2)) : ∃ res outs, Ret PG f_impl_FieldOf args res outs ∧ Φ res outs :=
  (comesP_of hl h).elim fun res h => h.elim fun outs h => ⟨res, outs, r_impl_FieldOf ok h.1, h.2⟩

def i_impl_TextRs : IFn := ⟨12, [.t 2, .t 3],
 .seq (.reg [⟨some 2, none, .mov (.c (.int .i64 0))⟩,
   ⟨some 3, none, .mov (.c (.bool false))⟩]) <|
 .seq (.reg [⟨some 5, none, .call (.f f_impl_rsTexts) [] false false⟩,
   ⟨some 6, none, .mov (.t 0)⟩,
   ⟨some 7, none, .call (.f f_slices_Index_string_string) [.t 5, .t 6] false false⟩,
   ⟨some 4, none, .mov (.t 7)⟩]) <|
 .seq (.reg [⟨some 8, none, .mov (.t 4)⟩,
   ⟨some 9, none, .max (.t 8) (.c (.int .i64 0))⟩,
   ⟨some 10, none, .mov (.t 4)⟩,
   ⟨some 11, none, .bin .geq (.t 10) (.c (.int .i64 0))⟩,
   ⟨some 2, none, .mov (.t 9)⟩,
   ⟨some 3, none, .mov (.t 11)⟩]) <|
 .ret⟩
theorem r_impl_TextRs {args : List A} {res : R} {outs : List (List O)} (ok : okArgs args = true) (h : Comes PG i_impl_TextRs args res outs) : Ret PG f_impl_TextRs args res outs :=
  ret_of hmix Tryz.func42 (by kernel_rfl) ok h
theorem p_impl_TextRs {args : List A} {Φ : R → List (List O) → Prop} (ok : okArgs args = true) (hl : decide (args.length ≤ i_impl_TextRs.ntmps) = true)
    (h : den PG (finQ i_impl_TextRs.res args Φ) [.code i_impl_TextRs.body] .norm (st i_impl_TextRs.ntmps (pairs 0 (entry 0 args).1) (entry 0 args).2)) : ∃ res outs, Ret PG f_impl_TextRs args res outs ∧ Φ res outs :=
  (comesP_of hl h).elim fun res h => h.elim fun outs h => ⟨res, outs, r_impl_TextRs ok h.1, h.2⟩

def i_slices_EqualFunc_impl_Acct_impl_Acct_impl_Acct_impl_Acct : IFn := ⟨32, [.t 6],
 .seq (.reg [⟨some 6, none, .mov (.c (.bool false))⟩]) <|
 .seq (.seq (.reg [⟨some 10, none, .mov (.t 0)⟩,
    ⟨some 11, none, .len false (.t 10)⟩,
    ⟨some 12, none, .mov (.t 1)⟩,
    ⟨some 13, none, .len false (.t 12)⟩,
    ⟨some 14, none, .bin .neq (.t 11) (.t 13)⟩]) <|
  .ite (.t 14) (
   .seq (.reg [⟨some 6, none, .mov (.c (.bool false))⟩]) <|
   .ret) (
   .skip)) <|
 .seq (.seq (.reg [⟨some 15, none, .mov (.t 0)⟩,
    ⟨some 16, none, .len false (.t 15)⟩,
    ⟨some 17, none, .mov (.c (.int .i64 0))⟩]) <|
  .blk 0 (
   .loop [1, 2, 15, 16, 17] [] (
    .seq (.reg [⟨some 18, none, .bin .lss (.t 17) (.t 16)⟩]) <|
    .seq (.ite (.t 18) (
      .skip) (
      .exit 0)) <|
    .seq (.blk 1 (
      .seq (.reg [⟨some 19, none, .mov (.t 17)⟩,
        ⟨some 20, none, .iaddr 11 (.t 15) (.t 17)⟩,
        ⟨some 21, none, .load true 11 (.t 20)⟩,
        ⟨some 8, none, .alloc [.str [], .int .i64 0, .int .i64 0, .int .i64 0, .int .i64 0, .z 3, .int .i64 0, .int .i64 0, .z 1, .z 1, .z 3]⟩,
        ⟨some 7, none, .mov (.t 19)⟩,
        ⟨none, none, .store 11 (.t 8) (.t 21)⟩]) <|
      .seq (.reg [⟨some 22, none, .mov (.t 1)⟩,
        ⟨some 23, none, .mov (.t 7)⟩,
        ⟨some 24, none, .iaddr 11 (.t 22) (.t 23)⟩,
        ⟨some 25, none, .load true 11 (.t 24)⟩,
        ⟨some 9, none, .alloc [.str [], .int .i64 0, .int .i64 0, .int .i64 0, .int .i64 0, .z 3, .int .i64 0, .int .i64 0, .z 1, .z 1, .z 3]⟩,
        ⟨none, none, .store 11 (.t 9) (.t 25)⟩]) <|
      .seq (.reg [⟨some 26, none, .mov (.t 2)⟩,
        ⟨some 27, none, .load true 11 (.t 8)⟩,
        ⟨some 28, none, .load true 11 (.t 9)⟩,
        ⟨some 29, none, .call (.t 26) [.t 27, .t 28] true false⟩,
        ⟨some 30, none, .un .not (.t 29)⟩]) <|
      .ite (.t 30) (
       .seq (.reg [⟨some 6, none, .mov (.c (.bool false))⟩]) <|
       .ret) (
       .skip))) <|
    .reg [⟨some 31, none, .bin .add (.t 17) (.c (.int .i64 1))⟩,
     ⟨some 17, none, .mov (.t 31)⟩]))) <|
 .seq (.reg [⟨some 6, none, .mov (.c (.bool true))⟩]) <|
 .ret⟩
theorem r_slices_EqualFunc_impl_Acct_impl_Acct_impl_Acct_impl_Acct {args : List A} {res : R} {outs : List (List O)} (ok : okArgs args = true) (h : Comes PG i_slices_EqualFunc_impl_Acct_impl_Acct_impl_Acct_impl_Acct args res outs) : Ret PG f_slices_EqualFunc_impl_Acct_impl_Acct_impl_Acct_impl_Acct args res outs :=
  ret_of hmix Tryz.func43 (by kernel_rfl) ok h
theorem p_slices_EqualFunc_impl_Acct_impl_Acct_impl_Acct_impl_Acct {args : List A} {Φ : R → List (List O) → Prop} (ok : okArgs args = true) (hl : decide (args.length ≤ i_slices_EqualFunc_impl_Acct_impl_Acct_impl_Acct_impl_Acct.ntmps) = true)
    (h : den PG (finQ i_slices_EqualFunc_impl_Acct_impl_Acct_impl_Acct_impl_Acct.res args Φ) [.code i_slices_EqualFunc_impl_Acct_impl_Acct_impl_Acct_impl_Acct.body] .norm (st i_slices_EqualFunc_impl_Acct_impl_Acct_impl_Acct_impl_Acct.ntmps (pairs 0 (entry 0 args).1) (entry 0 args).2)) : ∃ res outs, Ret PG f_slices_EqualFunc_impl_Acct_impl_Acct_impl_Acct_impl_Acct args res outs ∧ Φ res outs :=
  (comesP_of hl h).elim fun res h => h.elim fun outs h => ⟨res, outs, r_slices_EqualFunc_impl_Acct_impl_Acct_impl_Acct_impl_Acct ok h.1, h.2⟩

def i_impl_AcctSame : IFn := ⟨59, [.t 4],
 .seq (.reg [⟨some 2, none, .box 11 (.t 0)⟩,
   ⟨some 3, none, .box 11 (.t 1)⟩,
   ⟨some 4, none, .mov (.c (.bool false))⟩]) <|
 .seq (.reg [⟨some 5, none, .faddr 0 (.t 2)⟩,
   ⟨some 6, none, .load false 1 (.t 5)⟩,
   ⟨some 7, none, .faddr 0 (.t 3)⟩,
   ⟨some 8, none, .load false 1 (.t 7)⟩,
   ⟨some 9, none, .bin .eql (.t 6) (.t 8)⟩,
   ⟨some 10, none, .mov (.t 9)⟩,
   ⟨some 11, some (10, true), .faddr 1 (.t 2)⟩,
   ⟨some 12, some (10, true), .load false 1 (.t 11)⟩,
   ⟨some 13, some (10, true), .faddr 1 (.t 3)⟩,
   ⟨some 14, some (10, true), .load false 1 (.t 13)⟩,
   ⟨some 15, some (10, true), .bin .eql (.t 12) (.t 14)⟩,
   ⟨some 16, none, .pick (.t 10) (.t 15) (.c (.bool false))⟩,
   ⟨some 17, none, .mov (.t 16)⟩,
   ⟨some 18, some (17, true), .faddr 2 (.t 2)⟩,
   ⟨some 19, some (17, true), .load false 1 (.t 18)⟩,
   ⟨some 20, some (17, true), .faddr 2 (.t 3)⟩,
   ⟨some 21, some (17, true), .load false 1 (.t 20)⟩,
   ⟨some 22, some (17, true), .bin .eql (.t 19) (.t 21)⟩,
   ⟨some 23, none, .pick (.t 17) (.t 22) (.c (.bool false))⟩,
   ⟨some 24, none, .mov (.t 23)⟩,
   ⟨some 25, some (24, true), .faddr 3 (.t 2)⟩,
   ⟨some 26, some (24, true), .load false 1 (.t 25)⟩,
   ⟨some 27, some (24, true), .faddr 3 (.t 3)⟩,
   ⟨some 28, some (24, true), .load false 1 (.t 27)⟩,
   ⟨some 29, some (24, true), .bin .eql (.t 26) (.t 28)⟩,
   ⟨some 30, none, .pick (.t 24) (.t 29) (.c (.bool false))⟩,
   ⟨some 31, none, .mov (.t 30)⟩,
   ⟨some 32, some (31, true), .faddr 4 (.t 2)⟩,
   ⟨some 33, some (31, true), .load false 1 (.t 32)⟩,
   ⟨some 34, some (31, true), .faddr 4 (.t 3)⟩,
   ⟨some 35, some (31, true), .load false 1 (.t 34)⟩,
   ⟨some 36, some (31, true), .bin .eql (.t 33) (.t 35)⟩,
   ⟨some 37, none, .pick (.t 31) (.t 36) (.c (.bool false))⟩,
   ⟨some 38, none, .mov (.t 37)⟩,
   ⟨some 39, some (38, true), .faddr 5 (.t 2)⟩,
   ⟨some 40, some (38, true), .load false 1 (.t 39)⟩,
   ⟨some 41, some (38, true), .faddr 5 (.t 3)⟩,
   ⟨some 42, some (38, true), .load false 1 (.t 41)⟩,
   ⟨some 43, some (38, true), .call (.f f_slices_Equal_impl_Hold_impl_Hold) [.t 40, .t 42] false false⟩,
   ⟨some 44, none, .pick (.t 38) (.t 43) (.c (.bool false))⟩,
   ⟨some 45, none, .mov (.t 44)⟩,
   ⟨some 46, some (45, true), .faddr 6 (.t 2)⟩,
   ⟨some 47, some (45, true), .load true 4 (.t 46)⟩,
   ⟨some 48, some (45, true), .faddr 6 (.t 3)⟩,
   ⟨some 49, some (45, true), .load true 4 (.t 48)⟩,
   ⟨some 50, some (45, true), .call (.f f_impl_ringSame) [.t 47, .t 49] false false⟩,
   ⟨some 51, none, .pick (.t 45) (.t 50) (.c (.bool false))⟩,
   ⟨some 52, none, .mov (.t 51)⟩,
   ⟨some 53, some (52, true), .faddr 10 (.t 2)⟩,
   ⟨some 54, some (52, true), .load false 1 (.t 53)⟩,
   ⟨some 55, some (52, true), .faddr 10 (.t 3)⟩,
   ⟨some 56, some (52, true), .load false 1 (.t 55)⟩,
   ⟨some 57, some (52, true), .call (.f f_impl_SlotsSame) [.t 54, .t 56] false false⟩,
   ⟨some 58, none, .pick (.t 52) (.t 57) (.c (.bool false))⟩,
   ⟨some 4, none, .mov (.t 58)⟩]) <|
 .ret⟩
theorem r_impl_AcctSame {args : List A} {res : R} {outs : List (List O)} (ok : okArgs args = true) (h : Comes PG i_impl_AcctSame args res outs) : Ret PG f_impl_AcctSame args res outs :=
  ret_of hmix Tryz.func44 (by kernel_rfl) ok h
theorem p_impl_AcctSame {args : List A} {Φ : R → List (List O) → Prop} (ok : okArgs args = true) (hl : decide (args.length ≤ i_impl_AcctSame.ntmps) = true)
    (h : den PG (finQ i_impl_AcctSame.res args Φ) [.code i_impl_AcctSame.body] .norm (st i_impl_AcctSame.ntmps (pairs 0 (entry 0 args).1) (entry 0 args).2)) : ∃ res outs, Ret PG f_impl_AcctSame args res outs ∧ Φ res outs :=
  (comesP_of hl h).elim fun res h => h.elim fun outs h => ⟨res, outs, r_impl_AcctSame ok h.1, h.2⟩

def i_spec_l01Once : IFn := ⟨9, [.t 4],
 .seq (.reg [⟨some 4, none, .mov (.c (.bool false))⟩]) <|
 .seq (.reg [⟨some 5, none, .mov (.t 0)⟩,
   ⟨some 6, none, .mov (.t 1)⟩,
   ⟨some 7, none, .call (.f f_spec_l01Below) [.t 5, .t 6] true false⟩,
   ⟨some 8, none, .bin .eql (.t 7) (.c (.int .i64 0))⟩,
   ⟨some 4, none, .mov (.t 8)⟩]) <|
 .ret⟩
theorem r_spec_l01Once {args : List A} {res : R} {outs : List (List O)} (ok : okArgs args = true) (h : Comes PG i_spec_l01Once args res outs) : Ret PG f_spec_l01Once args res outs :=
  ret_of hmix Tryz.func45 (by kernel_rfl) ok h
theorem p_spec_l01Once {args : List A} {Φ : R → List (List O) → Prop} (ok : okArgs args = true) (hl : decide (args.length ≤ i_spec_l01Once.ntmps) = true)
    (h : den PG (finQ i_spec_l01Once.res args Φ) [.code i_spec_l01Once.body] .norm (st i_spec_l01Once.ntmps (pairs 0 (entry 0 args).1) (entry 0 args).2)) : ∃ res outs, Ret PG f_spec_l01Once args res outs ∧ Φ res outs :=
  (comesP_of hl h).elim fun res h => h.elim fun outs h => ⟨res, outs, r_spec_l01Once ok h.1, h.2⟩

def i_spec_AcctNew : IFn := ⟨38, [.cell true 11 12, .t 13],
 .seq (.reg [⟨some 12, none, .alloc [.str [], .int .i64 0, .int .i64 0, .int .i64 0, .int .i64 0, .z 3, .int .i64 0, .int .i64 0, .z 1, .z 1, .z 3]⟩,
   ⟨some 13, none, .mov (.c (.bool false))⟩]) <|
 .seq (.reg [⟨some 18, none, .mov (.t 4)⟩,
   ⟨some 19, none, .mov (.t 5)⟩,
   ⟨some 20, none, .call (.f f_spec_RingNew) [.t 18, .t 19] true false⟩,
   ⟨some 17, none, .mov (.t 20)⟩,
   ⟨some 21, none, .extr (.t 17) 0⟩,
   ⟨some 22, none, .extr (.t 17) 1⟩,
   ⟨some 14, none, .alloc [.int .i64 0, .int .i64 0, .z 1, .z 1]⟩,
   ⟨none, none, .store 4 (.t 14) (.t 21)⟩,
   ⟨some 15, none, .mov (.t 22)⟩]) <|
 .seq (.reg [⟨some 23, none, .mov (.t 0)⟩,
   ⟨some 24, none, .mov (.t 1)⟩,
   ⟨some 25, none, .mov (.t 2)⟩,
   ⟨some 26, none, .mov (.t 3)⟩,
   ⟨some 27, none, .load true 4 (.t 14)⟩,
   ⟨some 28, none, .build [.str [], .int .i64 0, .int .i64 0, .int .i64 0, .int .i64 0, .z 3, .int .i64 0, .int .i64 0, .z 1, .z 1, .z 3] [(0, 1, .t 23), (1, 1, .t 24), (3, 1, .t 25), (4, 1, .t 26), (6, 4, .t 27)]⟩,
   ⟨some 16, none, .alloc [.str [], .int .i64 0, .int .i64 0, .int .i64 0, .int .i64 0, .z 3, .int .i64 0, .int .i64 0, .z 1, .z 1, .z 3]⟩,
   ⟨none, none, .store 11 (.t 16) (.t 28)⟩]) <|
 .seq (.seq (.reg [⟨some 29, none, .mov (.t 15)⟩,
    ⟨some 30, none, .un .not (.t 29)⟩,
    ⟨some 31, none, .mov (.t 30)⟩,
    ⟨some 32, some (31, false), .load true 11 (.t 16)⟩,
    ⟨some 33, some (31, false), .call (.f f_spec_AcctOk) [.t 32] false false⟩,
    ⟨some 34, some (31, false), .un .not (.t 33)⟩,
    ⟨some 35, none, .pick (.t 31) (.c (.bool true)) (.t 34)⟩]) <|
  .ite (.t 35) (
   .seq (.reg [⟨some 36, none, .build [.str [], .int .i64 0, .int .i64 0, .int .i64 0, .int .i64 0, .z 3, .int .i64 0, .int .i64 0, .z 1, .z 1, .z 3] []⟩,
     ⟨none, none, .store 11 (.t 12) (.t 36)⟩,
     ⟨some 13, none, .mov (.c (.bool false))⟩]) <|
   .ret) (
   .skip)) <|
 .seq (.reg [⟨some 37, none, .load true 11 (.t 16)⟩,
   ⟨none, none, .store 11 (.t 12) (.t 37)⟩,
   ⟨some 13, none, .mov (.c (.bool true))⟩]) <|
 .ret⟩
theorem r_spec_AcctNew {args : List A} {res : R} {outs : List (List O)} (ok : okArgs args = true) (h : Comes PG i_spec_AcctNew args res outs) : Ret PG f_spec_AcctNew args res outs :=
  ret_of hmix Tryz.func46 (by kernel_rfl) ok h
theorem p_spec_AcctNew {args : List A} {Φ : R → List (List O) → Prop} (ok : okArgs args = true) (hl : decide (args.length ≤ i_spec_AcctNew.ntmps) = true)
    (h : den PG (finQ i_spec_AcctNew.res args Φ) [.code i_spec_AcctNew.body] .norm (st i_spec_AcctNew.ntmps (pairs 0 (entry 0 args).1) (entry 0 args).2)) : ∃ res outs, Ret PG f_spec_AcctNew args res outs ∧ Φ res outs :=
  (comesP_of hl h).elim fun res h => h.elim fun outs h => ⟨res, outs, r_spec_AcctNew ok h.1, h.2⟩

def i_spec_l01Pick : IFn := ⟨12, [.t 4],
 .seq (.reg [⟨some 4, none, .mov (.c (.int .i64 0))⟩]) <|
 .seq (.reg [⟨some 5, none, .mov (.t 1)⟩,
   ⟨some 6, none, .mov (.t 0)⟩,
   ⟨some 7, none, .mov (.t 1)⟩,
   ⟨some 8, none, .len false (.t 7)⟩,
   ⟨some 9, none, .call (.f f_spec_l01Below) [.t 6, .t 8] true false⟩,
   ⟨some 10, none, .iaddr 1 (.t 5) (.t 9)⟩,
   ⟨some 11, none, .load false 1 (.t 10)⟩,
   ⟨some 4, none, .mov (.t 11)⟩]) <|
 .ret⟩
theorem r_spec_l01Pick {args : List A} {res : R} {outs : List (List O)} (ok : okArgs args = true) (h : Comes PG i_spec_l01Pick args res outs) : Ret PG f_spec_l01Pick args res outs :=
  ret_of hmix Tryz.func47 (by kernel_rfl) ok h
theorem p_spec_l01Pick {args : List A} {Φ : R → List (List O) → Prop} (ok : okArgs args = true) (hl : decide (args.length ≤ i_spec_l01Pick.ntmps) = true)
    (h : den PG (finQ i_spec_l01Pick.res args Φ) [.code i_spec_l01Pick.body] .norm (st i_spec_l01Pick.ntmps (pairs 0 (entry 0 args).1) (entry 0 args).2)) : ∃ res outs, Ret PG f_spec_l01Pick args res outs ∧ Φ res outs :=
  (comesP_of hl h).elim fun res h => h.elim fun outs h => ⟨res, outs, r_spec_l01Pick ok h.1, h.2⟩

def i_spec_l06Draw : IFn := ⟨34, [.cell true 4 2],
 .seq (.reg [⟨some 2, none, .alloc [.int .i64 0, .int .i64 0, .z 1, .z 1]⟩]) <|
 .seq (.reg [⟨some 8, none, .mov (.t 0)⟩,
   ⟨some 9, none, .call (.f f_spec_l01Below) [.t 8, .c (.int .i64 5)] true false⟩,
   ⟨some 10, none, .bin .add (.c (.int .i64 1)) (.t 9)⟩,
   ⟨some 11, none, .mov (.t 0)⟩,
   ⟨some 12, none, .call (.f f_spec_l01Below) [.t 11, .c (.int .i64 6)] true false⟩,
   ⟨some 13, none, .bin .add (.c (.int .i64 1)) (.t 12)⟩,
   ⟨some 14, none, .call (.f f_spec_RingNew) [.t 10, .t 13] true false⟩,
   ⟨some 7, none, .mov (.t 14)⟩,
   ⟨some 15, none, .extr (.t 7) 0⟩,
   ⟨some 16, none, .extr (.t 7) 1⟩,
   ⟨some 3, none, .alloc [.int .i64 0, .int .i64 0, .z 1, .z 1]⟩,
   ⟨none, none, .store 4 (.t 3) (.t 15)⟩,
   ⟨some 4, none, .mov (.t 16)⟩]) <|
 .seq (.reg [⟨some 5, none, .mov (.c (.int .i64 0))⟩]) <|
 .seq (.seq (.reg [⟨some 17, none, .mov (.t 0)⟩,
    ⟨some 18, none, .call (.f f_spec_l01Below) [.t 17, .c (.int .i64 5)] true false⟩,
    ⟨some 6, none, .mov (.t 18)⟩]) <|
  .blk 0 (
   .loop [0, 2, 3, 5, 6] [] (
    .seq (.seq (.reg [⟨some 19, none, .mov (.t 6)⟩,
       ⟨some 20, none, .bin .gtr (.t 19) (.c (.int .i64 0))⟩]) <|
     .ite (.t 20) (
      .skip) (
      .exit 0)) <|
    .seq (.blk 1 (
      .seq (.reg [⟨some 23, none, .mov (.t 5)⟩,
        ⟨some 24, none, .mov (.t 0)⟩,
        ⟨some 25, none, .call (.f f_spec_l01Below) [.t 24, .c (.int .i64 9)] true false⟩,
        ⟨some 26, none, .bin .add (.t 23) (.t 25)⟩,
        ⟨some 5, none, .mov (.t 26)⟩]) <|
      .draw [⟨some 27, none, .load true 4 (.t 3)⟩,
       ⟨some 28, none, .mov (.t 5)⟩,
       ⟨some 29, none, .mov (.t 0)⟩,
       ⟨some 30, none, .call (.f f_spec_l01Below) [.t 29, .c (.int .i64 90)] true false⟩,
       ⟨some 31, none, .bin .add (.c (.int .i64 1)) (.t 30)⟩,
       ⟨some 32, none, .call (.f f_spec_RingAdd) [.t 27, .t 28, .t 31] true false⟩,
       ⟨none, none, .store 4 (.t 3) (.t 32)⟩] [(0, 1), (0, 2), (1, 2), (0, 3), (1, 3), (0, 4), (1, 4)])) <|
    .reg [⟨some 21, none, .mov (.t 6)⟩,
     ⟨some 22, none, .bin .sub (.t 21) (.c (.int .i64 1))⟩,
     ⟨some 6, none, .mov (.t 22)⟩]))) <|
 .seq (.reg [⟨some 33, none, .load true 4 (.t 3)⟩,
   ⟨none, none, .store 4 (.t 2) (.t 33)⟩]) <|
 .ret⟩
theorem r_spec_l06Draw {args : List A} {res : R} {outs : List (List O)} (ok : okArgs args = true) (h : Comes PG i_spec_l06Draw args res outs) : Ret PG f_spec_l06Draw args res outs :=
  ret_of hmix Tryz.func48 (by kernel_rfl) ok h
theorem p_spec_l06Draw {args : List A} {Φ : R → List (List O) → Prop} (ok : okArgs args = true) (hl : decide (args.length ≤ i_spec_l06Draw.ntmps) = true)
    (h : den PG (finQ i_spec_l06Draw.res args Φ) [.code i_spec_l06Draw.body] .norm (st i_spec_l06Draw.ntmps (pairs 0 (entry 0 args).1) (entry 0 args).2)) : ∃ res outs, Ret PG f_spec_l06Draw args res outs ∧ Φ res outs :=
  (comesP_of hl h).elim fun res h => h.elim fun outs h => ⟨res, outs, r_spec_l06Draw ok h.1, h.2⟩

def i_spec_l07Draw : IFn := ⟨24, [.t 2],
 .seq (.reg [⟨some 2, none, .mov (.c (.z 3))⟩]) <|
 .seq (.reg [⟨some 7, none, .bslice 3 0 (.agg [.str [], .int .i64 0, .int .i64 0]) []⟩,
   ⟨some 3, none, .mov (.t 7)⟩]) <|
 .seq (.seq (.reg [⟨some 8, none, .mov (.t 0)⟩,
    ⟨some 9, none, .call (.f f_spec_l01Below) [.t 8, .c (.int .i64 4)] true false⟩,
    ⟨some 4, none, .mov (.t 9)⟩]) <|
  .blk 0 (
   .loop [0, 3, 4] [] (
    .seq (.seq (.reg [⟨some 10, none, .mov (.t 4)⟩,
       ⟨some 11, none, .bin .gtr (.t 10) (.c (.int .i64 0))⟩]) <|
     .ite (.t 11) (
      .skip) (
      .exit 0)) <|
    .seq (.blk 1 (
      .seq (.reg [⟨some 15, none, .mov (.t 3)⟩,
        ⟨some 16, none, .mov (.t 0)⟩,
        ⟨some 17, none, .call (.f f_spec_l07Hold) [.t 16] true false⟩,
        ⟨some 18, none, .call (.f f_spec_HoldPut) [.t 15, .t 17] true false⟩,
        ⟨some 14, none, .mov (.t 18)⟩,
        ⟨some 19, none, .extr (.t 14) 0⟩,
        ⟨some 20, none, .extr (.t 14) 1⟩,
        ⟨some 5, none, .mov (.t 19)⟩,
        ⟨some 6, none, .mov (.t 20)⟩]) <|
      .seq (.reg [⟨some 21, none, .mov (.t 6)⟩]) <|
      .ite (.t 21) (
       .reg [⟨some 22, none, .mov (.t 5)⟩,
        ⟨some 3, none, .mov (.t 22)⟩]) (
       .skip))) <|
    .reg [⟨some 12, none, .mov (.t 4)⟩,
     ⟨some 13, none, .bin .sub (.t 12) (.c (.int .i64 1))⟩,
     ⟨some 4, none, .mov (.t 13)⟩]))) <|
 .seq (.reg [⟨some 23, none, .mov (.t 3)⟩,
   ⟨some 2, none, .mov (.t 23)⟩]) <|
 .ret⟩
theorem r_spec_l07Draw {args : List A} {res : R} {outs : List (List O)} (ok : okArgs args = true) (h : Comes PG i_spec_l07Draw args res outs) : Ret PG f_spec_l07Draw args res outs :=
  ret_of hmix Tryz.func49 (by kernel_rfl) ok h
theorem p_spec_l07Draw {args : List A} {Φ : R → List (List O) → Prop} (ok : okArgs args = true) (hl : decide (args.length ≤ i_spec_l07Draw.ntmps) = true)
    (h : den PG (finQ i_spec_l07Draw.res args Φ) [.code i_spec_l07Draw.body] .norm (st i_spec_l07Draw.ntmps (pairs 0 (entry 0 args).1) (entry 0 args).2)) : ∃ res outs, Ret PG f_spec_l07Draw args res outs ∧ Φ res outs :=
  (comesP_of hl h).elim fun res h => h.elim fun outs h => ⟨res, outs, r_spec_l07Draw ok h.1, h.2⟩

def i_spec_AddSat : IFn := ⟨18, [.t 4],
 .seq (.reg [⟨some 4, none, .mov (.c (.int .i64 0))⟩]) <|
 .seq (.reg [⟨some 8, none, .mov (.t 0)⟩,
   ⟨some 9, none, .call (.f f_spec_l01Clamp) [.t 8, .c (.int .i64 0), .c (.int .i64 4611686018427387904)] false false⟩,
   ⟨some 10, none, .mov (.t 1)⟩,
   ⟨some 11, none, .call (.f f_spec_l01Clamp) [.t 10, .c (.int .i64 0), .c (.int .i64 4611686018427387904)] false false⟩,
   ⟨some 12, none, .call (.f f_spec_AddMoney) [.t 9, .t 11] false false⟩,
   ⟨some 7, none, .mov (.t 12)⟩,
   ⟨some 13, none, .extr (.t 7) 0⟩,
   ⟨some 14, none, .extr (.t 7) 1⟩,
   ⟨some 5, none, .mov (.t 13)⟩,
   ⟨some 6, none, .mov (.t 14)⟩]) <|
 .seq (.seq (.reg [⟨some 15, none, .mov (.t 6)⟩,
    ⟨some 16, none, .un .not (.t 15)⟩]) <|
  .ite (.t 16) (
   .seq (.reg [⟨some 4, none, .mov (.c (.int .i64 4611686018427387904))⟩]) <|
   .ret) (
   .skip)) <|
 .seq (.reg [⟨some 17, none, .mov (.t 5)⟩,
   ⟨some 4, none, .mov (.t 17)⟩]) <|
 .ret⟩
theorem r_spec_AddSat {args : List A} {res : R} {outs : List (List O)} (ok : okArgs args = true) (h : Comes PG i_spec_AddSat args res outs) : Ret PG f_spec_AddSat args res outs :=
  ret_of hmix Tryz.func50 (by kernel_rfl) ok h
theorem p_spec_AddSat {args : List A} {Φ : R → List (List O) → Prop} (ok : okArgs args = true) (hl : decide (args.length ≤ i_spec_AddSat.ntmps) = true)
    (h : den PG (finQ i_spec_AddSat.res args Φ) [.code i_spec_AddSat.body] .norm (st i_spec_AddSat.ntmps (pairs 0 (entry 0 args).1) (entry 0 args).2)) : ∃ res outs, Ret PG f_spec_AddSat args res outs ∧ Φ res outs :=
  (comesP_of hl h).elim fun res h => h.elim fun outs h => ⟨res, outs, r_spec_AddSat ok h.1, h.2⟩

def i_spec_Stored : IFn := ⟨18, [.t 2],
 .seq (.reg [⟨some 2, none, .mov (.c (.int .i64 0))⟩]) <|
 .seq (.reg [⟨some 3, none, .mov (.c (.int .i64 0))⟩]) <|
 .seq (.seq (.reg [⟨some 6, none, .mov (.t 0)⟩,
    ⟨some 7, none, .len false (.t 6)⟩,
    ⟨some 8, none, .mov (.c (.int .i64 0))⟩]) <|
  .blk 0 (
   .loop [3, 6, 7, 8] [] (
    .seq (.reg [⟨some 9, none, .bin .lss (.t 8) (.t 7)⟩]) <|
    .seq (.ite (.t 9) (
      .skip) (
      .exit 0)) <|
    .seq (.blk 1 (
      .seq (.reg [⟨some 10, none, .iaddr 3 (.t 6) (.t 8)⟩,
        ⟨some 11, none, .load true 3 (.t 10)⟩,
        ⟨some 5, none, .alloc [.str [], .int .i64 0, .int .i64 0]⟩,
        ⟨none, none, .store 3 (.t 5) (.t 11)⟩]) <|
      .reg [⟨some 12, none, .mov (.t 3)⟩,
       ⟨some 13, none, .faddr 1 (.t 5)⟩,
       ⟨some 14, none, .load false 1 (.t 13)⟩,
       ⟨some 15, none, .call (.f f_spec_AddSat) [.t 12, .t 14] false false⟩,
       ⟨some 3, none, .mov (.t 15)⟩])) <|
    .reg [⟨some 16, none, .bin .add (.t 8) (.c (.int .i64 1))⟩,
     ⟨some 8, none, .mov (.t 16)⟩]))) <|
 .seq (.reg [⟨some 17, none, .mov (.t 3)⟩,
   ⟨some 2, none, .mov (.t 17)⟩]) <|
 .ret⟩
theorem r_spec_Stored {args : List A} {res : R} {outs : List (List O)} (ok : okArgs args = true) (h : Comes PG i_spec_Stored args res outs) : Ret PG f_spec_Stored args res outs :=
  ret_of hmix Tryz.func51 (by kernel_rfl) ok h
theorem p_spec_Stored {args : List A} {Φ : R → List (List O) → Prop} (ok : okArgs args = true) (hl : decide (args.length ≤ i_spec_Stored.ntmps) = true)
    (h : den PG (finQ i_spec_Stored.res args Φ) [.code i_spec_Stored.body] .norm (st i_spec_Stored.ntmps (pairs 0 (entry 0 args).1) (entry 0 args).2)) : ∃ res outs, Ret PG f_spec_Stored args res outs ∧ Φ res outs :=
  (comesP_of hl h).elim fun res h => h.elim fun outs h => ⟨res, outs, r_spec_Stored ok h.1, h.2⟩

def i_spec_l08Draw : IFn := ⟨24, [.t 2],
 .seq (.reg [⟨some 2, none, .mov (.c (.z 3))⟩]) <|
 .seq (.reg [⟨some 7, none, .bslice 3 0 (.agg [.str [], .str [], .z 1]) []⟩,
   ⟨some 3, none, .mov (.t 7)⟩]) <|
 .seq (.seq (.reg [⟨some 8, none, .mov (.t 0)⟩,
    ⟨some 9, none, .call (.f f_spec_l01Below) [.t 8, .c (.int .i64 5)] true false⟩,
    ⟨some 4, none, .mov (.t 9)⟩]) <|
  .blk 0 (
   .loop [0, 3, 4] [] (
    .seq (.seq (.reg [⟨some 10, none, .mov (.t 4)⟩,
       ⟨some 11, none, .bin .gtr (.t 10) (.c (.int .i64 0))⟩]) <|
     .ite (.t 11) (
      .skip) (
      .exit 0)) <|
    .seq (.blk 1 (
      .seq (.reg [⟨some 15, none, .mov (.t 3)⟩,
        ⟨some 16, none, .mov (.t 0)⟩,
        ⟨some 17, none, .call (.f f_spec_l08Slot) [.t 16] true false⟩,
        ⟨some 18, none, .call (.f f_spec_SlotPut) [.t 15, .t 17] true false⟩,
        ⟨some 14, none, .mov (.t 18)⟩,
        ⟨some 19, none, .extr (.t 14) 0⟩,
        ⟨some 20, none, .extr (.t 14) 1⟩,
        ⟨some 5, none, .mov (.t 19)⟩,
        ⟨some 6, none, .mov (.t 20)⟩]) <|
      .seq (.reg [⟨some 21, none, .mov (.t 6)⟩]) <|
      .ite (.t 21) (
       .reg [⟨some 22, none, .mov (.t 5)⟩,
        ⟨some 3, none, .mov (.t 22)⟩]) (
       .skip))) <|
    .reg [⟨some 12, none, .mov (.t 4)⟩,
     ⟨some 13, none, .bin .sub (.t 12) (.c (.int .i64 1))⟩,
     ⟨some 4, none, .mov (.t 13)⟩]))) <|
 .seq (.reg [⟨some 23, none, .mov (.t 3)⟩,
   ⟨some 2, none, .mov (.t 23)⟩]) <|
 .ret⟩
theorem r_spec_l08Draw {args : List A} {res : R} {outs : List (List O)} (ok : okArgs args = true) (h : Comes PG i_spec_l08Draw args res outs) : Ret PG f_spec_l08Draw args res outs :=
  ret_of hmix Tryz.func52 (by kernel_rfl) ok h
theorem p_spec_l08Draw {args : List A} {Φ : R → List (List O) → Prop} (ok : okArgs args = true) (hl : decide (args.length ≤ i_spec_l08Draw.ntmps) = true)
    (h : den PG (finQ i_spec_l08Draw.res args Φ) [.code i_spec_l08Draw.body] .norm (st i_spec_l08Draw.ntmps (pairs 0 (entry 0 args).1) (entry 0 args).2)) : ∃ res outs, Ret PG f_spec_l08Draw args res outs ∧ Φ res outs :=
  (comesP_of hl h).elim fun res h => h.elim fun outs h => ⟨res, outs, r_spec_l08Draw ok h.1, h.2⟩

def i_spec_l11Draw : IFn := ⟨39, [.cell true 8 2],
 .seq (.reg [⟨some 2, none, .alloc [.int .i64 0, .str [], .str [], .str [], .str [], .str [], .int .i64 0, .int .i64 0]⟩]) <|
 .seq (.reg [⟨some 5, none, .mov (.t 0)⟩,
   ⟨some 6, none, .call (.f f_spec_l01Below) [.t 5, .c (.int .i64 8)] true false⟩,
   ⟨some 7, none, .bin .add (.c (.int .i64 1)) (.t 6)⟩,
   ⟨some 3, none, .mov (.t 7)⟩]) <|
 .seq (.seq (.reg [⟨some 8, none, .mov (.t 0)⟩,
    ⟨some 9, none, .call (.f f_spec_l01Once) [.t 8, .c (.int .i64 3)] true false⟩]) <|
  .ite (.t 9) (
   .reg [⟨some 3, none, .mov (.c (.int .i64 1))⟩]) (
   .skip)) <|
 .seq (.reg [⟨some 10, none, .mov (.t 3)⟩,
   ⟨some 11, none, .mov (.t 3)⟩,
   ⟨some 12, none, .call (.f f_spec_OpMti) [.t 11] false false⟩,
   ⟨some 13, none, .mov (.t 0)⟩,
   ⟨some 14, none, .call (.f f_spec_l09Id) [.t 13] true false⟩,
   ⟨some 15, none, .mov (.t 0)⟩,
   ⟨some 16, none, .call (.f f_spec_l11Trace) [.t 15] true false⟩,
   ⟨some 17, none, .build [.int .i64 0, .str [], .str [], .str [], .str [], .str [], .int .i64 0, .int .i64 0] [(0, 1, .t 10), (5, 1, .t 12), (1, 1, .t 14), (4, 1, .t 16)]⟩,
   ⟨some 4, none, .alloc [.int .i64 0, .str [], .str [], .str [], .str [], .str [], .int .i64 0, .int .i64 0]⟩,
   ⟨none, none, .store 8 (.t 4) (.t 17)⟩]) <|
 .seq (.seq (.reg [⟨some 18, none, .mov (.t 3)⟩,
    ⟨some 19, none, .call (.f f_spec_l11Hold) [.t 18] false false⟩]) <|
  .ite (.t 19) (
   .reg [⟨some 20, none, .mov (.t 0)⟩,
    ⟨some 21, none, .call (.f f_spec_l07Id) [.t 20] true false⟩,
    ⟨some 22, none, .faddr 3 (.t 4)⟩,
    ⟨none, none, .store 1 (.t 22) (.t 21)⟩]) (
   .skip)) <|
 .seq (.seq (.reg [⟨some 23, none, .mov (.t 3)⟩,
    ⟨some 24, none, .call (.f f_spec_l11Amount) [.t 23] false false⟩]) <|
  .ite (.t 24) (
   .reg [⟨some 25, none, .mov (.t 0)⟩,
    ⟨some 26, none, .call (.f f_spec_l01Below) [.t 25, .c (.int .i64 50)] true false⟩,
    ⟨some 27, none, .faddr 6 (.t 4)⟩,
    ⟨none, none, .store 1 (.t 27) (.t 26)⟩]) (
   .skip)) <|
 .seq (.seq (.reg [⟨some 28, none, .mov (.t 3)⟩,
    ⟨some 29, none, .bin .eql (.t 28) (.c (.int .i64 1))⟩]) <|
  .ite (.t 29) (
   .reg [⟨some 30, none, .mov (.t 0)⟩,
    ⟨some 31, none, .call (.f f_spec_l01Below) [.t 30, .c (.int .i64 25)] true false⟩,
    ⟨some 32, none, .faddr 7 (.t 4)⟩,
    ⟨none, none, .store 1 (.t 32) (.t 31)⟩]) (
   .skip)) <|
 .seq (.seq (.reg [⟨some 33, none, .mov (.t 3)⟩,
    ⟨some 34, none, .bin .eql (.t 33) (.c (.int .i64 6))⟩]) <|
  .ite (.t 34) (
   .reg [⟨some 35, none, .mov (.t 0)⟩,
    ⟨some 36, none, .call (.f f_spec_l09Id) [.t 35] true false⟩,
    ⟨some 37, none, .faddr 2 (.t 4)⟩,
    ⟨none, none, .store 1 (.t 37) (.t 36)⟩]) (
   .skip)) <|
 .seq (.reg [⟨some 38, none, .load true 8 (.t 4)⟩,
   ⟨none, none, .store 8 (.t 2) (.t 38)⟩]) <|
 .ret⟩
theorem r_spec_l11Draw {args : List A} {res : R} {outs : List (List O)} (ok : okArgs args = true) (h : Comes PG i_spec_l11Draw args res outs) : Ret PG f_spec_l11Draw args res outs :=
  ret_of hmix Tryz.func53 (by kernel_rfl) ok h
theorem p_spec_l11Draw {args : List A} {Φ : R → List (List O) → Prop} (ok : okArgs args = true) (hl : decide (args.length ≤ i_spec_l11Draw.ntmps) = true)
    (h : den PG (finQ i_spec_l11Draw.res args Φ) [.code i_spec_l11Draw.body] .norm (st i_spec_l11Draw.ntmps (pairs 0 (entry 0 args).1) (entry 0 args).2)) : ∃ res outs, Ret PG f_spec_l11Draw args res outs ∧ Φ res outs :=
  (comesP_of hl h).elim fun res h => h.elim fun outs h => ⟨res, outs, r_spec_l11Draw ok h.1, h.2⟩

def i_spec_l11Hold : IFn := ⟨9, [.t 2],
 .seq (.reg [⟨some 2, none, .mov (.c (.bool false))⟩]) <|
 .seq (.reg [⟨some 3, none, .mov (.t 0)⟩,
   ⟨some 4, none, .call (.f f_spec_l11Op) [.t 3] false false⟩,
   ⟨some 5, none, .mov (.t 4)⟩,
   ⟨some 6, some (5, true), .mov (.t 0)⟩,
   ⟨some 7, some (5, true), .bin .lss (.t 6) (.c (.int .i64 7))⟩,
   ⟨some 8, none, .pick (.t 5) (.t 7) (.c (.bool false))⟩,
   ⟨some 2, none, .mov (.t 8)⟩]) <|
 .ret⟩
theorem r_spec_l11Hold {args : List A} {res : R} {outs : List (List O)} (ok : okArgs args = true) (h : Comes PG i_spec_l11Hold args res outs) : Ret PG f_spec_l11Hold args res outs :=
  ret_of hmix Tryz.func54 (by kernel_rfl) ok h
theorem p_spec_l11Hold {args : List A} {Φ : R → List (List O) → Prop} (ok : okArgs args = true) (hl : decide (args.length ≤ i_spec_l11Hold.ntmps) = true)
    (h : den PG (finQ i_spec_l11Hold.res args Φ) [.code i_spec_l11Hold.body] .norm (st i_spec_l11Hold.ntmps (pairs 0 (entry 0 args).1) (entry 0 args).2)) : ∃ res outs, Ret PG f_spec_l11Hold args res outs ∧ Φ res outs :=
  (comesP_of hl h).elim fun res h => h.elim fun outs h => ⟨res, outs, r_spec_l11Hold ok h.1, h.2⟩

def i_spec_l11Amount : IFn := ⟨5, [.t 2],
 .seq (.reg [⟨some 2, none, .mov (.c (.bool false))⟩]) <|
 .seq (.reg [⟨some 3, none, .mov (.t 0)⟩,
   ⟨some 4, none, .call (.f f_spec_l01In) [.t 3, .c (.int .i64 1), .c (.int .i64 4)] false false⟩,
   ⟨some 2, none, .mov (.t 4)⟩]) <|
 .ret⟩
theorem r_spec_l11Amount {args : List A} {res : R} {outs : List (List O)} (ok : okArgs args = true) (h : Comes PG i_spec_l11Amount args res outs) : Ret PG f_spec_l11Amount args res outs :=
  ret_of hmix Tryz.func55 (by kernel_rfl) ok h
theorem p_spec_l11Amount {args : List A} {Φ : R → List (List O) → Prop} (ok : okArgs args = true) (hl : decide (args.length ≤ i_spec_l11Amount.ntmps) = true)
    (h : den PG (finQ i_spec_l11Amount.res args Φ) [.code i_spec_l11Amount.body] .norm (st i_spec_l11Amount.ntmps (pairs 0 (entry 0 args).1) (entry 0 args).2)) : ∃ res outs, Ret PG f_spec_l11Amount args res outs ∧ Φ res outs :=
  (comesP_of hl h).elim fun res h => h.elim fun outs h => ⟨res, outs, r_spec_l11Amount ok h.1, h.2⟩

def i_spec_l01Byte : IFn := ⟨58, [.t 2],
 .seq (.reg [⟨some 2, none, .mov (.c (.int .i64 0))⟩]) <|
 .seq (.reg [⟨some 4, none, .mov (.t 0)⟩,
   ⟨some 5, none, .mov (.t 0)⟩,
   ⟨some 6, none, .nilc (.t 5)⟩,
   ⟨some 7, none, .faddr 2 (.t 6)⟩,
   ⟨some 8, none, .load false 1 (.t 7)⟩,
   ⟨some 9, none, .bin .mul (.t 8) (.c (.int .i64 6364136223846793005))⟩,
   ⟨some 10, none, .bin .add (.t 9) (.c (.int .i64 1442695040888963407))⟩,
   ⟨some 11, none, .nilc (.t 4)⟩,
   ⟨some 12, none, .faddr 2 (.t 11)⟩,
   ⟨none, none, .store 1 (.t 12) (.t 10)⟩]) <|
 .seq (.draw [⟨some 13, none, .mov (.t 0)⟩,
   ⟨some 14, none, .nilc (.t 13)⟩,
   ⟨some 15, none, .faddr 2 (.t 14)⟩,
   ⟨some 16, none, .load false 1 (.t 15)⟩,
   ⟨some 17, none, .bin .shr (.t 16) (.c (.int .u64 33))⟩,
   ⟨some 18, none, .mov (.t 0)⟩,
   ⟨some 19, none, .nilc (.t 18)⟩,
   ⟨some 20, none, .faddr 2 (.t 19)⟩,
   ⟨some 21, none, .load false 1 (.t 20)⟩,
   ⟨some 22, none, .bin .shr (.t 21) (.c (.int .u64 45))⟩,
   ⟨some 23, none, .bin .xor (.t 17) (.t 22)⟩,
   ⟨some 24, none, .bin .and (.t 23) (.c (.int .i64 255))⟩,
   ⟨some 3, none, .mov (.t 24)⟩] [(0, 5), (1, 5), (2, 5), (3, 5), (4, 5), (0, 6), (1, 6), (2, 6), (3, 6), (4, 6), (0, 7), (1, 7), (2, 7), (3, 7), (4, 7), (0, 8), (1, 8), (2, 8), (3, 8), (4, 8), (0, 9), (1, 9), (2, 9), (3, 9), (4, 9)]) <|
 .seq (.seq (.draw [⟨some 25, none, .mov (.t 0)⟩,
    ⟨some 26, none, .nilc (.t 25)⟩,
    ⟨some 27, none, .faddr 1 (.t 26)⟩,
    ⟨some 28, none, .load false 1 (.t 27)⟩,
    ⟨some 29, none, .mov (.t 0)⟩,
    ⟨some 30, none, .nilc (.t 29)⟩,
    ⟨some 31, none, .faddr 0 (.t 30)⟩,
    ⟨some 32, none, .load false 1 (.t 31)⟩,
    ⟨some 33, none, .len false (.t 32)⟩,
    ⟨some 34, none, .bin .lss (.t 28) (.t 33)⟩] [(0, 4), (1, 4), (2, 4), (3, 4), (0, 5), (1, 5), (2, 5), (3, 5), (0, 6), (1, 6), (2, 6), (3, 6), (0, 7), (1, 7), (2, 7), (3, 7), (0, 8), (1, 8), (2, 8), (3, 8)]) <|
  .ite (.t 34) (
   .seq (.draw [⟨some 35, none, .mov (.t 3)⟩,
     ⟨some 36, none, .mov (.t 0)⟩,
     ⟨some 37, none, .nilc (.t 36)⟩,
     ⟨some 38, none, .faddr 0 (.t 37)⟩,
     ⟨some 39, none, .load false 1 (.t 38)⟩,
     ⟨some 40, none, .mov (.t 0)⟩,
     ⟨some 41, none, .nilc (.t 40)⟩,
     ⟨some 42, none, .faddr 1 (.t 41)⟩,
     ⟨some 43, none, .load false 1 (.t 42)⟩,
     ⟨some 44, none, .iaddr 1 (.t 39) (.t 43)⟩,
     ⟨some 45, none, .load false 1 (.t 44)⟩,
     ⟨some 46, none, .conv (.int .i64) (.t 45)⟩,
     ⟨some 47, none, .bin .add (.t 35) (.t 46)⟩,
     ⟨some 48, none, .bin .and (.t 47) (.c (.int .i64 255))⟩,
     ⟨some 3, none, .mov (.t 48)⟩] [(0, 1), (0, 2), (0, 3), (0, 4), (0, 5), (1, 5), (2, 5), (3, 5), (4, 5), (0, 6), (1, 6), (2, 6), (3, 6), (4, 6), (0, 7), (1, 7), (2, 7), (3, 7), (4, 7), (0, 8), (1, 8), (2, 8), (3, 8), (4, 8), (0, 9), (0, 10), (0, 11)]) <|
   .reg [⟨some 49, none, .mov (.t 0)⟩,
    ⟨some 50, none, .mov (.t 0)⟩,
    ⟨some 51, none, .nilc (.t 50)⟩,
    ⟨some 52, none, .faddr 1 (.t 51)⟩,
    ⟨some 53, none, .load false 1 (.t 52)⟩,
    ⟨some 54, none, .bin .add (.t 53) (.c (.int .i64 1))⟩,
    ⟨some 55, none, .nilc (.t 49)⟩,
    ⟨some 56, none, .faddr 1 (.t 55)⟩,
    ⟨none, none, .store 1 (.t 56) (.t 54)⟩]) (
   .skip)) <|
 .seq (.reg [⟨some 57, none, .mov (.t 3)⟩,
   ⟨some 2, none, .mov (.t 57)⟩]) <|
 .ret⟩
theorem r_spec_l01Byte {args : List A} {res : R} {outs : List (List O)} (ok : okArgs args = true) (h : Comes PG i_spec_l01Byte args res outs) : Ret PG f_spec_l01Byte args res outs :=
  ret_of hmix Tryz.func56 (by kernel_rfl) ok h
theorem p_spec_l01Byte {args : List A} {Φ : R → List (List O) → Prop} (ok : okArgs args = true) (hl : decide (args.length ≤ i_spec_l01Byte.ntmps) = true)
    (h : den PG (finQ i_spec_l01Byte.res args Φ) [.code i_spec_l01Byte.body] .norm (st i_spec_l01Byte.ntmps (pairs 0 (entry 0 args).1) (entry 0 args).2)) : ∃ res outs, Ret PG f_spec_l01Byte args res outs ∧ Φ res outs :=
  (comesP_of hl h).elim fun res h => h.elim fun outs h => ⟨res, outs, r_spec_l01Byte ok h.1, h.2⟩

def i_impl_opOf : IFn := ⟨12, [.cell true 4 2],
 .seq (.reg [⟨some 2, none, .alloc [.str [], .str [], .str [], .z 1]⟩]) <|
 .seq (.seq (.reg [⟨some 3, none, .mov (.t 0)⟩,
    ⟨some 4, none, .call (.f f_impl_within) [.t 3, .c (.int .i64 1), .c (.int .i64 8)] false false⟩,
    ⟨some 5, none, .un .not (.t 4)⟩]) <|
  .ite (.t 5) (
   .seq (.reg [⟨some 6, none, .build [.str [], .str [], .str [], .z 1] []⟩,
     ⟨none, none, .store 4 (.t 2) (.t 6)⟩]) <|
   .ret) (
   .skip)) <|
 .seq (.reg [⟨some 7, none, .call (.f f_impl_opRows) [] false false⟩,
   ⟨some 8, none, .mov (.t 0)⟩,
   ⟨some 9, none, .bin .sub (.t 8) (.c (.int .i64 1))⟩,
   ⟨some 10, none, .iaddr 4 (.t 7) (.t 9)⟩,
   ⟨some 11, none, .load true 4 (.t 10)⟩,
   ⟨none, none, .store 4 (.t 2) (.t 11)⟩]) <|
 .ret⟩
theorem r_impl_opOf {args : List A} {res : R} {outs : List (List O)} (ok : okArgs args = true) (h : Comes PG i_impl_opOf args res outs) : Ret PG f_impl_opOf args res outs :=
  ret_of hmix Tryz.func57 (by kernel_rfl) ok h
theorem p_impl_opOf {args : List A} {Φ : R → List (List O) → Prop} (ok : okArgs args = true) (hl : decide (args.length ≤ i_impl_opOf.ntmps) = true)
    (h : den PG (finQ i_impl_opOf.res args Φ) [.code i_impl_opOf.body] .norm (st i_impl_opOf.ntmps (pairs 0 (entry 0 args).1) (entry 0 args).2)) : ∃ res outs, Ret PG f_impl_opOf args res outs ∧ Φ res outs :=
  (comesP_of hl h).elim fun res h => h.elim fun outs h => ⟨res, outs, r_impl_opOf ok h.1, h.2⟩

def i_impl_AcctIdOk : IFn := ⟨10, [.t 2],
 .seq (.reg [⟨some 2, none, .mov (.c (.bool false))⟩]) <|
 .seq (.reg [⟨some 3, none, .mov (.t 0)⟩,
   ⟨some 4, none, .len true (.t 3)⟩,
   ⟨some 5, none, .bin .leq (.t 4) (.c (.int .i64 19))⟩,
   ⟨some 6, none, .mov (.t 5)⟩,
   ⟨some 7, some (6, true), .mov (.t 0)⟩,
   ⟨some 8, some (6, true), .call (.f f_impl_LuhnOk) [.t 7] false false⟩,
   ⟨some 9, none, .pick (.t 6) (.t 8) (.c (.bool false))⟩,
   ⟨some 2, none, .mov (.t 9)⟩]) <|
 .ret⟩
theorem r_impl_AcctIdOk {args : List A} {res : R} {outs : List (List O)} (ok : okArgs args = true) (h : Comes PG i_impl_AcctIdOk args res outs) : Ret PG f_impl_AcctIdOk args res outs :=
  ret_of hmix Tryz.func58 (by kernel_rfl) ok h
theorem p_impl_AcctIdOk {args : List A} {Φ : R → List (List O) → Prop} (ok : okArgs args = true) (hl : decide (args.length ≤ i_impl_AcctIdOk.ntmps) = true)
    (h : den PG (finQ i_impl_AcctIdOk.res args Φ) [.code i_impl_AcctIdOk.body] .norm (st i_impl_AcctIdOk.ntmps (pairs 0 (entry 0 args).1) (entry 0 args).2)) : ∃ res outs, Ret PG f_impl_AcctIdOk args res outs ∧ Φ res outs :=
  (comesP_of hl h).elim fun res h => h.elim fun outs h => ⟨res, outs, r_impl_AcctIdOk ok h.1, h.2⟩

def i_impl_isWide : IFn := ⟨13, [.t 4],
 .seq (.reg [⟨some 4, none, .mov (.c (.bool false))⟩]) <|
 .seq (.reg [⟨some 5, none, .mov (.t 0)⟩,
   ⟨some 6, none, .call (.f f_impl_Digits) [.t 5] false false⟩,
   ⟨some 7, none, .mov (.t 6)⟩,
   ⟨some 8, some (7, true), .mov (.t 0)⟩,
   ⟨some 9, some (7, true), .len true (.t 8)⟩,
   ⟨some 10, some (7, true), .mov (.t 1)⟩,
   ⟨some 11, some (7, true), .bin .eql (.t 9) (.t 10)⟩,
   ⟨some 12, none, .pick (.t 7) (.t 11) (.c (.bool false))⟩,
   ⟨some 4, none, .mov (.t 12)⟩]) <|
 .ret⟩
theorem r_impl_isWide {args : List A} {res : R} {outs : List (List O)} (ok : okArgs args = true) (h : Comes PG i_impl_isWide args res outs) : Ret PG f_impl_isWide args res outs :=
  ret_of hmix Tryz.func59 (by kernel_rfl) ok h
theorem p_impl_isWide {args : List A} {Φ : R → List (List O) → Prop} (ok : okArgs args = true) (hl : decide (args.length ≤ i_impl_isWide.ntmps) = true)
    (h : den PG (finQ i_impl_isWide.res args Φ) [.code i_impl_isWide.body] .norm (st i_impl_isWide.ntmps (pairs 0 (entry 0 args).1) (entry 0 args).2)) : ∃ res outs, Ret PG f_impl_isWide args res outs ∧ Φ res outs :=
  (comesP_of hl h).elim fun res h => h.elim fun outs h => ⟨res, outs, r_impl_isWide ok h.1, h.2⟩

def i_impl_HoldIdOk : IFn := ⟨35, [.t 2],
 .seq (.reg [⟨some 2, none, .mov (.c (.bool false))⟩]) <|
 .seq (.seq (.reg [⟨some 4, none, .mov (.t 0)⟩,
    ⟨some 5, none, .len true (.t 4)⟩,
    ⟨some 6, none, .mov (.c (.int .i64 0))⟩]) <|
  .blk 0 (
   .loop [0, 5, 6] [] (
    .seq (.reg [⟨some 7, none, .bin .lss (.t 6) (.t 5)⟩]) <|
    .seq (.ite (.t 7) (
      .skip) (
      .exit 0)) <|
    .seq (.blk 1 (
      .seq (.reg [⟨some 8, none, .mov (.t 6)⟩,
        ⟨some 3, none, .mov (.t 8)⟩]) <|
      .seq (.reg [⟨some 9, none, .mov (.t 0)⟩,
        ⟨some 10, none, .mov (.t 3)⟩,
        ⟨some 11, none, .index (.t 9) (.t 10)⟩,
        ⟨some 12, none, .bin .lss (.t 11) (.c (.int .u8 48))⟩,
        ⟨some 13, none, .mov (.t 12)⟩,
        ⟨some 14, some (13, false), .mov (.t 0)⟩,
        ⟨some 15, some (13, false), .mov (.t 3)⟩,
        ⟨some 16, some (13, false), .index (.t 14) (.t 15)⟩,
        ⟨some 17, some (13, false), .bin .gtr (.t 16) (.c (.int .u8 57))⟩,
        ⟨some 18, none, .pick (.t 13) (.c (.bool true)) (.t 17)⟩,
        ⟨some 19, none, .mov (.t 18)⟩,
        ⟨some 20, some (19, true), .mov (.t 0)⟩,
        ⟨some 21, some (19, true), .mov (.t 3)⟩,
        ⟨some 22, some (19, true), .index (.t 20) (.t 21)⟩,
        ⟨some 23, some (19, true), .bin .lss (.t 22) (.c (.int .u8 97))⟩,
        ⟨some 24, some (19, true), .mov (.t 23)⟩,
        ⟨some 25, some (24, false), .mov (.t 0)⟩,
        ⟨some 26, some (24, false), .mov (.t 3)⟩,
        ⟨some 27, some (24, false), .index (.t 25) (.t 26)⟩,
        ⟨some 28, some (24, false), .bin .gtr (.t 27) (.c (.int .u8 122))⟩,
        ⟨some 29, some (19, true), .pick (.t 24) (.c (.bool true)) (.t 28)⟩,
        ⟨some 30, none, .pick (.t 19) (.t 29) (.c (.bool false))⟩]) <|
      .ite (.t 30) (
       .seq (.reg [⟨some 2, none, .mov (.c (.bool false))⟩]) <|
       .ret) (
       .skip))) <|
    .reg [⟨some 31, none, .bin .add (.t 6) (.c (.int .i64 1))⟩,
     ⟨some 6, none, .mov (.t 31)⟩]))) <|
 .seq (.reg [⟨some 32, none, .mov (.t 0)⟩,
   ⟨some 33, none, .len true (.t 32)⟩,
   ⟨some 34, none, .call (.f f_impl_within) [.t 33, .c (.int .i64 1), .c (.int .i64 6)] false false⟩,
   ⟨some 2, none, .mov (.t 34)⟩]) <|
 .ret⟩
theorem r_impl_HoldIdOk {args : List A} {res : R} {outs : List (List O)} (ok : okArgs args = true) (h : Comes PG i_impl_HoldIdOk args res outs) : Ret PG f_impl_HoldIdOk args res outs :=
  ret_of hmix Tryz.func60 (by kernel_rfl) ok h
theorem p_impl_HoldIdOk {args : List A} {Φ : R → List (List O) → Prop} (ok : okArgs args = true) (hl : decide (args.length ≤ i_impl_HoldIdOk.ntmps) = true)
    (h : den PG (finQ i_impl_HoldIdOk.res args Φ) [.code i_impl_HoldIdOk.body] .norm (st i_impl_HoldIdOk.ntmps (pairs 0 (entry 0 args).1) (entry 0 args).2)) : ∃ res outs, Ret PG f_impl_HoldIdOk args res outs ∧ Φ res outs :=
  (comesP_of hl h).elim fun res h => h.elim fun outs h => ⟨res, outs, r_impl_HoldIdOk ok h.1, h.2⟩

def i_impl_within : IFn := ⟨15, [.t 6],
 .seq (.reg [⟨some 6, none, .mov (.c (.bool false))⟩]) <|
 .seq (.reg [⟨some 7, none, .mov (.t 1)⟩,
   ⟨some 8, none, .mov (.t 0)⟩,
   ⟨some 9, none, .bin .leq (.t 7) (.t 8)⟩,
   ⟨some 10, none, .mov (.t 9)⟩,
   ⟨some 11, some (10, true), .mov (.t 0)⟩,
   ⟨some 12, some (10, true), .mov (.t 2)⟩,
   ⟨some 13, some (10, true), .bin .leq (.t 11) (.t 12)⟩,
   ⟨some 14, none, .pick (.t 10) (.t 13) (.c (.bool false))⟩,
   ⟨some 6, none, .mov (.t 14)⟩]) <|
 .ret⟩
theorem r_impl_within {args : List A} {res : R} {outs : List (List O)} (ok : okArgs args = true) (h : Comes PG i_impl_within args res outs) : Ret PG f_impl_within args res outs :=
  ret_of hmix Tryz.func61 (by kernel_rfl) ok h
theorem p_impl_within {args : List A} {Φ : R → List (List O) → Prop} (ok : okArgs args = true) (hl : decide (args.length ≤ i_impl_within.ntmps) = true)
    (h : den PG (finQ i_impl_within.res args Φ) [.code i_impl_within.body] .norm (st i_impl_within.ntmps (pairs 0 (entry 0 args).1) (entry 0 args).2)) : ∃ res outs, Ret PG f_impl_within args res outs ∧ Φ res outs :=
  (comesP_of hl h).elim fun res h => h.elim fun outs h => ⟨res, outs, r_impl_within ok h.1, h.2⟩

def i_impl_FieldSize : IFn := ⟨6, [.t 2],
 .seq (.reg [⟨some 2, none, .mov (.c (.int .i64 0))⟩]) <|
 .seq (.reg [⟨some 3, none, .mov (.t 0)⟩,
   ⟨some 4, none, .call (.f f_impl_rowOf) [.t 3] false false⟩,
   ⟨some 5, none, .field false 2 1 (.t 4)⟩,
   ⟨some 2, none, .mov (.t 5)⟩]) <|
 .ret⟩
theorem r_impl_FieldSize {args : List A} {res : R} {outs : List (List O)} (ok : okArgs args = true) (h : Comes PG i_impl_FieldSize args res outs) : Ret PG f_impl_FieldSize args res outs :=
  ret_of hmix Tryz.func64 (by kernel_rfl) ok h
theorem p_impl_FieldSize {args : List A} {Φ : R → List (List O) → Prop} (ok : okArgs args = true) (hl : decide (args.length ≤ i_impl_FieldSize.ntmps) = true)
    (h : den PG (finQ i_impl_FieldSize.res args Φ) [.code i_impl_FieldSize.body] .norm (st i_impl_FieldSize.ntmps (pairs 0 (entry 0 args).1) (entry 0 args).2)) : ∃ res outs, Ret PG f_impl_FieldSize args res outs ∧ Φ res outs :=
  (comesP_of hl h).elim fun res h => h.elim fun outs h => ⟨res, outs, r_impl_FieldSize ok h.1, h.2⟩

def i_impl_FieldKind : IFn := ⟨6, [.t 2],
 .seq (.reg [⟨some 2, none, .mov (.c (.int .i64 0))⟩]) <|
 .seq (.reg [⟨some 3, none, .mov (.t 0)⟩,
   ⟨some 4, none, .call (.f f_impl_rowOf) [.t 3] false false⟩,
   ⟨some 5, none, .field false 1 1 (.t 4)⟩,
   ⟨some 2, none, .mov (.t 5)⟩]) <|
 .ret⟩
theorem r_impl_FieldKind {args : List A} {res : R} {outs : List (List O)} (ok : okArgs args = true) (h : Comes PG i_impl_FieldKind args res outs) : Ret PG f_impl_FieldKind args res outs :=
  ret_of hmix Tryz.func65 (by kernel_rfl) ok h
theorem p_impl_FieldKind {args : List A} {Φ : R → List (List O) → Prop} (ok : okArgs args = true) (hl : decide (args.length ≤ i_impl_FieldKind.ntmps) = true)
    (h : den PG (finQ i_impl_FieldKind.res args Φ) [.code i_impl_FieldKind.body] .norm (st i_impl_FieldKind.ntmps (pairs 0 (entry 0 args).1) (entry 0 args).2)) : ∃ res outs, Ret PG f_impl_FieldKind args res outs ∧ Φ res outs :=
  (comesP_of hl h).elim fun res h => h.elim fun outs h => ⟨res, outs, r_impl_FieldKind ok h.1, h.2⟩

def i_impl_FieldOk : IFn := ⟨55, [.t 4],
 .seq (.reg [⟨some 4, none, .mov (.c (.bool false))⟩]) <|
 .seq (.reg [⟨some 6, none, .mov (.t 0)⟩,
   ⟨some 7, none, .call (.f f_impl_rowOf) [.t 6] false false⟩,
   ⟨some 5, none, .alloc [.int .i64 0, .int .i64 0, .int .i64 0]⟩,
   ⟨none, none, .store 3 (.t 5) (.t 7)⟩]) <|
 .seq (.seq (.reg [⟨some 8, none, .faddr 1 (.t 5)⟩,
    ⟨some 9, none, .load false 1 (.t 8)⟩]) <|
  .blk 0 (
   .seq (.reg [⟨some 11, none, .bin .eql (.t 9) (.c (.int .i64 1))⟩,
     ⟨some 10, none, .mov (.t 11)⟩]) <|
   .ite (.t 10) (
    .seq (.reg [⟨some 12, none, .mov (.t 1)⟩,
      ⟨some 13, none, .call (.f f_impl_Digits) [.t 12] false false⟩,
      ⟨some 14, none, .mov (.t 13)⟩,
      ⟨some 15, some (14, true), .mov (.t 1)⟩,
      ⟨some 16, some (14, true), .len true (.t 15)⟩,
      ⟨some 17, some (14, true), .faddr 2 (.t 5)⟩,
      ⟨some 18, some (14, true), .load false 1 (.t 17)⟩,
      ⟨some 19, some (14, true), .bin .eql (.t 16) (.t 18)⟩,
      ⟨some 20, none, .pick (.t 14) (.t 19) (.c (.bool false))⟩,
      ⟨some 4, none, .mov (.t 20)⟩]) <|
    .ret) (
    .seq (.reg [⟨some 22, none, .bin .eql (.t 9) (.c (.int .i64 2))⟩,
      ⟨some 21, none, .mov (.t 22)⟩]) <|
    .ite (.t 21) (
     .seq (.reg [⟨some 23, none, .mov (.t 1)⟩,
       ⟨some 24, none, .call (.f f_impl_Printable) [.t 23] false false⟩,
       ⟨some 25, none, .mov (.t 24)⟩,
       ⟨some 26, some (25, true), .mov (.t 1)⟩,
       ⟨some 27, some (25, true), .len true (.t 26)⟩,
       ⟨some 28, some (25, true), .faddr 2 (.t 5)⟩,
       ⟨some 29, some (25, true), .load false 1 (.t 28)⟩,
       ⟨some 30, some (25, true), .bin .eql (.t 27) (.t 29)⟩,
       ⟨some 31, none, .pick (.t 25) (.t 30) (.c (.bool false))⟩,
       ⟨some 4, none, .mov (.t 31)⟩]) <|
     .ret) (
     .seq (.reg [⟨some 33, none, .bin .eql (.t 9) (.c (.int .i64 3))⟩,
       ⟨some 32, none, .mov (.t 33)⟩]) <|
     .ite (.t 32) (
      .seq (.reg [⟨some 34, none, .mov (.t 1)⟩,
        ⟨some 35, none, .call (.f f_impl_Digits) [.t 34] false false⟩,
        ⟨some 36, none, .mov (.t 35)⟩,
        ⟨some 37, some (36, true), .mov (.t 1)⟩,
        ⟨some 38, some (36, true), .len true (.t 37)⟩,
        ⟨some 39, some (36, true), .faddr 2 (.t 5)⟩,
        ⟨some 40, some (36, true), .load false 1 (.t 39)⟩,
        ⟨some 41, some (36, true), .call (.f f_impl_within) [.t 38, .c (.int .i64 1), .t 40] false false⟩,
        ⟨some 42, none, .pick (.t 36) (.t 41) (.c (.bool false))⟩,
        ⟨some 4, none, .mov (.t 42)⟩]) <|
      .ret) (
      .seq (.seq (.reg [⟨some 44, none, .bin .eql (.t 9) (.c (.int .i64 4))⟩,
         ⟨some 43, none, .mov (.t 44)⟩]) <|
       .ite (.t 43) (
        .skip) (
        .reg [⟨some 45, none, .bin .eql (.t 9) (.c (.int .i64 5))⟩,
         ⟨some 43, none, .mov (.t 45)⟩])) <|
      .ite (.t 43) (
       .seq (.reg [⟨some 46, none, .mov (.t 1)⟩,
         ⟨some 47, none, .call (.f f_impl_Printable) [.t 46] false false⟩,
         ⟨some 48, none, .mov (.t 47)⟩,
         ⟨some 49, some (48, true), .mov (.t 1)⟩,
         ⟨some 50, some (48, true), .len true (.t 49)⟩,
         ⟨some 51, some (48, true), .faddr 2 (.t 5)⟩,
         ⟨some 52, some (48, true), .load false 1 (.t 51)⟩,
         ⟨some 53, some (48, true), .call (.f f_impl_within) [.t 50, .c (.int .i64 1), .t 52] false false⟩,
         ⟨some 54, none, .pick (.t 48) (.t 53) (.c (.bool false))⟩,
         ⟨some 4, none, .mov (.t 54)⟩]) <|
       .ret) (
       .skip)))))) <|
 .seq (.reg [⟨some 4, none, .mov (.c (.bool false))⟩]) <|
 .ret⟩
theorem r_impl_FieldOk {args : List A} {res : R} {outs : List (List O)} (ok : okArgs args = true) (h : Comes PG i_impl_FieldOk args res outs) : Ret PG f_impl_FieldOk args res outs :=
  ret_of hmix Tryz.func66 (by kernel_rfl) ok h
theorem p_impl_FieldOk {args : List A} {Φ : R → List (List O) → Prop} (ok : okArgs args = true) (hl : decide (args.length ≤ i_impl_FieldOk.ntmps) = true)
    (h : den PG (finQ i_impl_FieldOk.res args Φ) [.code i_impl_FieldOk.body] .norm (st i_impl_FieldOk.ntmps (pairs 0 (entry 0 args).1) (entry 0 args).2)) : ∃ res outs, Ret PG f_impl_FieldOk args res outs ∧ Φ res outs :=
  (comesP_of hl h).elim fun res h => h.elim fun outs h => ⟨res, outs, r_impl_FieldOk ok h.1, h.2⟩

def i_slices_Contains_int_int : IFn := ⟨9, [.t 4],
 .seq (.reg [⟨some 4, none, .mov (.c (.bool false))⟩]) <|
 .seq (.reg [⟨some 5, none, .mov (.t 0)⟩,
   ⟨some 6, none, .mov (.t 1)⟩,
   ⟨some 7, none, .call (.f f_slices_Index_int_int) [.t 5, .t 6] false false⟩,
   ⟨some 8, none, .bin .geq (.t 7) (.c (.int .i64 0))⟩,
   ⟨some 4, none, .mov (.t 8)⟩]) <|
 .ret⟩
theorem r_slices_Contains_int_int {args : List A} {res : R} {outs : List (List O)} (ok : okArgs args = true) (h : Comes PG i_slices_Contains_int_int args res outs) : Ret PG f_slices_Contains_int_int args res outs :=
  ret_of hmix Tryz.func67 (by kernel_rfl) ok h
theorem p_slices_Contains_int_int {args : List A} {Φ : R → List (List O) → Prop} (ok : okArgs args = true) (hl : decide (args.length ≤ i_slices_Contains_int_int.ntmps) = true)
    (h : den PG (finQ i_slices_Contains_int_int.res args Φ) [.code i_slices_Contains_int_int.body] .norm (st i_slices_Contains_int_int.ntmps (pairs 0 (entry 0 args).1) (entry 0 args).2)) : ∃ res outs, Ret PG f_slices_Contains_int_int args res outs ∧ Φ res outs :=
  (comesP_of hl h).elim fun res h => h.elim fun outs h => ⟨res, outs, r_slices_Contains_int_int ok h.1, h.2⟩

def i_impl_PutLen : IFn := ⟨15, [.t 4, .t 5],
 .seq (.reg [⟨some 4, none, .mov (.c (.z 1))⟩,
   ⟨some 5, none, .mov (.c (.bool false))⟩]) <|
 .seq (.seq (.reg [⟨some 6, none, .mov (.t 1)⟩,
    ⟨some 7, none, .call (.f f_impl_within) [.t 6, .c (.int .i64 2), .c (.int .i64 3)] false false⟩,
    ⟨some 8, none, .un .not (.t 7)⟩]) <|
  .ite (.t 8) (
   .seq (.reg [⟨some 4, none, .mov (.c (.z 1))⟩,
     ⟨some 5, none, .mov (.c (.bool false))⟩]) <|
   .ret) (
   .skip)) <|
 .seq (.reg [⟨some 9, none, .mov (.t 0)⟩,
   ⟨some 10, none, .mov (.t 1)⟩,
   ⟨some 11, none, .call (.f f_impl_Wide) [.t 9, .t 10] false false⟩,
   ⟨some 12, none, .call (.f f_impl_PutBcd) [.t 11] true false⟩,
   ⟨some 13, none, .extr (.t 12) 0⟩,
   ⟨some 14, none, .extr (.t 12) 1⟩,
   ⟨some 4, none, .mov (.t 13)⟩,
   ⟨some 5, none, .mov (.t 14)⟩]) <|
 .ret⟩
theorem r_impl_PutLen {args : List A} {res : R} {outs : List (List O)} (ok : okArgs args = true) (h : Comes PG i_impl_PutLen args res outs) : Ret PG f_impl_PutLen args res outs :=
  ret_of hmix Tryz.func68 (by kernel_rfl) ok h
theorem p_impl_PutLen {args : List A} {Φ : R → List (List O) → Prop} (ok : okArgs args = true) (hl : decide (args.length ≤ i_impl_PutLen.ntmps) = true)
    (h : den PG (finQ i_impl_PutLen.res args Φ) [.code i_impl_PutLen.body] .norm (st i_impl_PutLen.ntmps (pairs 0 (entry 0 args).1) (entry 0 args).2)) : ∃ res outs, Ret PG f_impl_PutLen args res outs ∧ Φ res outs :=
  (comesP_of hl h).elim fun res h => h.elim fun outs h => ⟨res, outs, r_impl_PutLen ok h.1, h.2⟩

def i_impl_lenDigits : IFn := ⟨6, [.t 2],
 .seq (.reg [⟨some 2, none, .mov (.c (.int .i64 0))⟩]) <|
 .seq (.seq (.reg [⟨some 3, none, .mov (.t 0)⟩,
    ⟨some 4, none, .call (.f f_impl_FieldKind) [.t 3] false false⟩,
    ⟨some 5, none, .bin .eql (.t 4) (.c (.int .i64 5))⟩]) <|
  .ite (.t 5) (
   .seq (.reg [⟨some 2, none, .mov (.c (.int .i64 3))⟩]) <|
   .ret) (
   .skip)) <|
 .seq (.reg [⟨some 2, none, .mov (.c (.int .i64 2))⟩]) <|
 .ret⟩
theorem r_impl_lenDigits {args : List A} {res : R} {outs : List (List O)} (ok : okArgs args = true) (h : Comes PG i_impl_lenDigits args res outs) : Ret PG f_impl_lenDigits args res outs :=
  ret_of hmix Tryz.func69 (by kernel_rfl) ok h
theorem p_impl_lenDigits {args : List A} {Φ : R → List (List O) → Prop} (ok : okArgs args = true) (hl : decide (args.length ≤ i_impl_lenDigits.ntmps) = true)
    (h : den PG (finQ i_impl_lenDigits.res args Φ) [.code i_impl_lenDigits.body] .norm (st i_impl_lenDigits.ntmps (pairs 0 (entry 0 args).1) (entry 0 args).2)) : ∃ res outs, Ret PG f_impl_lenDigits args res outs ∧ Φ res outs :=
  (comesP_of hl h).elim fun res h => h.elim fun outs h => ⟨res, outs, r_impl_lenDigits ok h.1, h.2⟩

def i_impl_Digits : IFn := ⟨22, [.t 2],
 .seq (.reg [⟨some 2, none, .mov (.c (.bool false))⟩]) <|
 .seq (.seq (.reg [⟨some 4, none, .mov (.t 0)⟩,
    ⟨some 5, none, .len true (.t 4)⟩,
    ⟨some 6, none, .mov (.c (.int .i64 0))⟩]) <|
  .blk 0 (
   .loop [0, 5, 6] [] (
    .seq (.reg [⟨some 7, none, .bin .lss (.t 6) (.t 5)⟩]) <|
    .seq (.ite (.t 7) (
      .skip) (
      .exit 0)) <|
    .seq (.blk 1 (
      .seq (.reg [⟨some 8, none, .mov (.t 6)⟩,
        ⟨some 3, none, .mov (.t 8)⟩]) <|
      .seq (.reg [⟨some 9, none, .mov (.t 0)⟩,
        ⟨some 10, none, .mov (.t 3)⟩,
        ⟨some 11, none, .index (.t 9) (.t 10)⟩,
        ⟨some 12, none, .bin .lss (.t 11) (.c (.int .u8 48))⟩,
        ⟨some 13, none, .mov (.t 12)⟩,
        ⟨some 14, some (13, false), .mov (.t 0)⟩,
        ⟨some 15, some (13, false), .mov (.t 3)⟩,
        ⟨some 16, some (13, false), .index (.t 14) (.t 15)⟩,
        ⟨some 17, some (13, false), .bin .gtr (.t 16) (.c (.int .u8 57))⟩,
        ⟨some 18, none, .pick (.t 13) (.c (.bool true)) (.t 17)⟩]) <|
      .ite (.t 18) (
       .seq (.reg [⟨some 2, none, .mov (.c (.bool false))⟩]) <|
       .ret) (
       .skip))) <|
    .reg [⟨some 19, none, .bin .add (.t 6) (.c (.int .i64 1))⟩,
     ⟨some 6, none, .mov (.t 19)⟩]))) <|
 .seq (.reg [⟨some 20, none, .mov (.t 0)⟩,
   ⟨some 21, none, .bin .neq (.t 20) (.c (.str []))⟩,
   ⟨some 2, none, .mov (.t 21)⟩]) <|
 .ret⟩
theorem r_impl_Digits {args : List A} {res : R} {outs : List (List O)} (ok : okArgs args = true) (h : Comes PG i_impl_Digits args res outs) : Ret PG f_impl_Digits args res outs :=
  ret_of hmix Tryz.func70 (by kernel_rfl) ok h
theorem p_impl_Digits {args : List A} {Φ : R → List (List O) → Prop} (ok : okArgs args = true) (hl : decide (args.length ≤ i_impl_Digits.ntmps) = true)
    (h : den PG (finQ i_impl_Digits.res args Φ) [.code i_impl_Digits.body] .norm (st i_impl_Digits.ntmps (pairs 0 (entry 0 args).1) (entry 0 args).2)) : ∃ res outs, Ret PG f_impl_Digits args res outs ∧ Φ res outs :=
  (comesP_of hl h).elim fun res h => h.elim fun outs h => ⟨res, outs, r_impl_Digits ok h.1, h.2⟩

def i_impl_GetBits : IFn := ⟨43, [.t 4, .t 5, .t 6],
 .seq (.reg [⟨some 4, none, .mov (.c (.z 1))⟩,
   ⟨some 5, none, .mov (.c (.int .i64 0))⟩,
   ⟨some 6, none, .mov (.c (.bool false))⟩]) <|
 .seq (.reg [⟨some 12, none, .mov (.t 0)⟩,
   ⟨some 13, none, .mov (.t 1)⟩,
   ⟨some 14, none, .call (.f f_impl_piece) [.t 12, .t 13, .c (.int .i64 8)] false false⟩,
   ⟨some 11, none, .mov (.t 14)⟩,
   ⟨some 15, none, .extr (.t 11) 0⟩,
   ⟨some 16, none, .extr (.t 11) 1⟩,
   ⟨some 7, none, .mov (.t 15)⟩,
   ⟨some 8, none, .mov (.t 16)⟩]) <|
 .seq (.seq (.reg [⟨some 17, none, .mov (.t 8)⟩,
    ⟨some 18, none, .un .not (.t 17)⟩]) <|
  .ite (.t 18) (
   .seq (.reg [⟨some 4, none, .mov (.c (.z 1))⟩,
     ⟨some 5, none, .mov (.c (.int .i64 0))⟩,
     ⟨some 6, none, .mov (.c (.bool false))⟩]) <|
   .ret) (
   .skip)) <|
 .seq (.reg [⟨some 19, none, .bslice 1 0 (.int .i64 0) []⟩,
   ⟨some 9, none, .mov (.t 19)⟩]) <|
 .seq (.seq (.reg [⟨some 10, none, .mov (.c (.int .i64 1))⟩]) <|
  .blk 0 (
   .loop [1, 7, 9, 10] [] (
    .seq (.seq (.reg [⟨some 20, none, .mov (.t 10)⟩,
       ⟨some 21, none, .bin .leq (.t 20) (.c (.int .i64 64))⟩]) <|
     .ite (.t 21) (
      .skip) (
      .exit 0)) <|
    .seq (.blk 1 (
      .seq (.draw [⟨some 24, none, .mov (.t 7)⟩,
        ⟨some 25, none, .mov (.t 10)⟩,
        ⟨some 26, none, .bin .sub (.t 25) (.c (.int .i64 1))⟩,
        ⟨some 27, none, .bin .quo (.t 26) (.c (.int .i64 8))⟩,
        ⟨some 28, none, .iaddr 1 (.t 24) (.t 27)⟩,
        ⟨some 29, none, .load false 1 (.t 28)⟩,
        ⟨some 30, none, .mov (.t 10)⟩,
        ⟨some 31, none, .bin .sub (.t 30) (.c (.int .i64 1))⟩,
        ⟨some 32, none, .bin .rem (.t 31) (.c (.int .i64 8))⟩,
        ⟨some 33, none, .bin .shr (.c (.int .u8 128)) (.t 32)⟩,
        ⟨some 34, none, .bin .and (.t 29) (.t 33)⟩,
        ⟨some 35, none, .bin .neq (.t 34) (.c (.int .u8 0))⟩] [(0, 1), (0, 2), (0, 3), (0, 6), (1, 6), (2, 6), (3, 6), (4, 6), (5, 6), (0, 7), (1, 7), (2, 7), (3, 7), (4, 7), (5, 7), (0, 8), (1, 8), (2, 8), (3, 8), (4, 8), (5, 8), (0, 9), (1, 9), (2, 9), (3, 9), (4, 9), (5, 9)]) <|
      .ite (.t 35) (
       .reg [⟨some 36, none, .mov (.t 9)⟩,
        ⟨some 37, none, .mov (.t 10)⟩,
        ⟨some 38, none, .bslice 1 1 (.int .i64 0) [(0, .t 37)]⟩,
        ⟨some 39, none, .app 1 8 (.t 36) (.t 38)⟩,
        ⟨some 9, none, .mov (.t 39)⟩]) (
       .skip))) <|
    .reg [⟨some 22, none, .mov (.t 10)⟩,
     ⟨some 23, none, .bin .add (.t 22) (.c (.int .i64 1))⟩,
     ⟨some 10, none, .mov (.t 23)⟩]))) <|
 .seq (.reg [⟨some 40, none, .mov (.t 9)⟩,
   ⟨some 41, none, .mov (.t 1)⟩,
   ⟨some 42, none, .bin .add (.t 41) (.c (.int .i64 8))⟩,
   ⟨some 4, none, .mov (.t 40)⟩,
   ⟨some 5, none, .mov (.t 42)⟩,
   ⟨some 6, none, .mov (.c (.bool true))⟩]) <|
 .ret⟩
theorem r_impl_GetBits {args : List A} {res : R} {outs : List (List O)} (ok : okArgs args = true) (h : Comes PG i_impl_GetBits args res outs) : Ret PG f_impl_GetBits args res outs :=
  ret_of hmix Tryz.func71 (by kernel_rfl) ok h
theorem p_impl_GetBits {args : List A} {Φ : R → List (List O) → Prop} (ok : okArgs args = true) (hl : decide (args.length ≤ i_impl_GetBits.ntmps) = true)
    (h : den PG (finQ i_impl_GetBits.res args Φ) [.code i_impl_GetBits.body] .norm (st i_impl_GetBits.ntmps (pairs 0 (entry 0 args).1) (entry 0 args).2)) : ∃ res outs, Ret PG f_impl_GetBits args res outs ∧ Φ res outs :=
  (comesP_of hl h).elim fun res h => h.elim fun outs h => ⟨res, outs, r_impl_GetBits ok h.1, h.2⟩

def i_impl_GetField : IFn := ⟨75, [.t 6, .t 7, .t 8],
 .seq (.reg [⟨some 6, none, .mov (.c (.str []))⟩,
   ⟨some 7, none, .mov (.c (.int .i64 0))⟩,
   ⟨some 8, none, .mov (.c (.bool false))⟩]) <|
 .seq (.reg [⟨some 14, none, .mov (.t 2)⟩,
   ⟨some 15, none, .call (.f f_impl_FieldSize) [.t 14] false false⟩,
   ⟨some 16, none, .mov (.t 2)⟩,
   ⟨some 17, none, .call (.f f_impl_FieldKind) [.t 16] false false⟩,
   ⟨some 9, none, .mov (.t 15)⟩,
   ⟨some 10, none, .mov (.c (.str []))⟩,
   ⟨some 11, none, .mov (.t 17)⟩,
   ⟨some 12, none, .mov (.c (.bool true))⟩]) <|
 .seq (.seq (.reg [⟨some 18, none, .mov (.t 11)⟩,
    ⟨some 19, none, .bin .eql (.t 18) (.c (.int .i64 3))⟩,
    ⟨some 20, none, .mov (.t 19)⟩,
    ⟨some 21, some (20, false), .mov (.t 11)⟩,
    ⟨some 22, some (20, false), .bin .eql (.t 21) (.c (.int .i64 4))⟩,
    ⟨some 23, none, .pick (.t 20) (.c (.bool true)) (.t 22)⟩,
    ⟨some 24, none, .mov (.t 23)⟩,
    ⟨some 25, some (24, false), .mov (.t 11)⟩,
    ⟨some 26, some (24, false), .bin .eql (.t 25) (.c (.int .i64 5))⟩,
    ⟨some 27, none, .pick (.t 24) (.c (.bool true)) (.t 26)⟩]) <|
  .ite (.t 27) (
   .reg [⟨some 29, none, .mov (.t 0)⟩,
    ⟨some 30, none, .mov (.t 1)⟩,
    ⟨some 31, none, .mov (.t 2)⟩,
    ⟨some 32, none, .call (.f f_impl_lenDigits) [.t 31] false false⟩,
    ⟨some 33, none, .call (.f f_impl_GetLen) [.t 29, .t 30, .t 32] false false⟩,
    ⟨some 28, none, .mov (.t 33)⟩,
    ⟨some 34, none, .extr (.t 28) 0⟩,
    ⟨some 35, none, .extr (.t 28) 1⟩,
    ⟨some 36, none, .extr (.t 28) 2⟩,
    ⟨some 9, none, .mov (.t 34)⟩,
    ⟨some 1, none, .mov (.t 35)⟩,
    ⟨some 12, none, .mov (.t 36)⟩]) (
   .skip)) <|
 .seq (.seq (.reg [⟨some 37, none, .mov (.t 12)⟩,
    ⟨some 38, none, .un .not (.t 37)⟩]) <|
  .ite (.t 38) (
   .seq (.reg [⟨some 6, none, .mov (.c (.str []))⟩,
     ⟨some 7, none, .mov (.c (.int .i64 0))⟩,
     ⟨some 8, none, .mov (.c (.bool false))⟩]) <|
   .ret) (
   .skip)) <|
 .seq (.seq (.reg [⟨some 39, none, .mov (.t 11)⟩,
    ⟨some 40, none, .bin .eql (.t 39) (.c (.int .i64 1))⟩,
    ⟨some 41, none, .mov (.t 40)⟩,
    ⟨some 42, some (41, false), .mov (.t 11)⟩,
    ⟨some 43, some (41, false), .bin .eql (.t 42) (.c (.int .i64 3))⟩,
    ⟨some 44, none, .pick (.t 41) (.c (.bool true)) (.t 43)⟩]) <|
  .ite (.t 44) (
   .reg [⟨some 46, none, .mov (.t 0)⟩,
    ⟨some 47, none, .mov (.t 1)⟩,
    ⟨some 48, none, .mov (.t 9)⟩,
    ⟨some 49, none, .call (.f f_impl_GetBcd) [.t 46, .t 47, .t 48] false false⟩,
    ⟨some 45, none, .mov (.t 49)⟩,
    ⟨some 50, none, .extr (.t 45) 0⟩,
    ⟨some 51, none, .extr (.t 45) 1⟩,
    ⟨some 52, none, .extr (.t 45) 2⟩,
    ⟨some 10, none, .mov (.t 50)⟩,
    ⟨some 1, none, .mov (.t 51)⟩,
    ⟨some 12, none, .mov (.t 52)⟩]) (
   .seq (.reg [⟨some 13, none, .mov (.c (.z 1))⟩]) <|
   .seq (.reg [⟨some 54, none, .mov (.t 0)⟩,
     ⟨some 55, none, .mov (.t 1)⟩,
     ⟨some 56, none, .mov (.t 9)⟩,
     ⟨some 57, none, .call (.f f_impl_piece) [.t 54, .t 55, .t 56] false false⟩,
     ⟨some 53, none, .mov (.t 57)⟩,
     ⟨some 58, none, .extr (.t 53) 0⟩,
     ⟨some 59, none, .extr (.t 53) 1⟩,
     ⟨some 13, none, .mov (.t 58)⟩,
     ⟨some 12, none, .mov (.t 59)⟩]) <|
   .reg [⟨some 60, none, .mov (.t 13)⟩,
    ⟨some 61, none, .conv .bytesStr (.t 60)⟩,
    ⟨some 62, none, .mov (.t 1)⟩,
    ⟨some 63, none, .mov (.t 9)⟩,
    ⟨some 64, none, .bin .add (.t 62) (.t 63)⟩,
    ⟨some 10, none, .mov (.t 61)⟩,
    ⟨some 1, none, .mov (.t 64)⟩])) <|
 .seq (.seq (.reg [⟨some 65, none, .mov (.t 12)⟩,
    ⟨some 66, none, .un .not (.t 65)⟩,
    ⟨some 67, none, .mov (.t 66)⟩,
    ⟨some 68, some (67, false), .mov (.t 2)⟩,
    ⟨some 69, some (67, false), .mov (.t 10)⟩,
    ⟨some 70, some (67, false), .call (.f f_impl_FieldOk) [.t 68, .t 69] false false⟩,
    ⟨some 71, some (67, false), .un .not (.t 70)⟩,
    ⟨some 72, none, .pick (.t 67) (.c (.bool true)) (.t 71)⟩]) <|
  .ite (.t 72) (
   .seq (.reg [⟨some 6, none, .mov (.c (.str []))⟩,
     ⟨some 7, none, .mov (.c (.int .i64 0))⟩,
     ⟨some 8, none, .mov (.c (.bool false))⟩]) <|
   .ret) (
   .skip)) <|
 .seq (.reg [⟨some 73, none, .mov (.t 10)⟩,
   ⟨some 74, none, .mov (.t 1)⟩,
   ⟨some 6, none, .mov (.t 73)⟩,
   ⟨some 7, none, .mov (.t 74)⟩,
   ⟨some 8, none, .mov (.c (.bool true))⟩]) <|
 .ret⟩
theorem r_impl_GetField {args : List A} {res : R} {outs : List (List O)} (ok : okArgs args = true) (h : Comes PG i_impl_GetField args res outs) : Ret PG f_impl_GetField args res outs :=
  ret_of hmix Tryz.func72 (by kernel_rfl) ok h
theorem p_impl_GetField {args : List A} {Φ : R → List (List O) → Prop} (ok : okArgs args = true) (hl : decide (args.length ≤ i_impl_GetField.ntmps) = true)
    (h : den PG (finQ i_impl_GetField.res args Φ) [.code i_impl_GetField.body] .norm (st i_impl_GetField.ntmps (pairs 0 (entry 0 args).1) (entry 0 args).2)) : ∃ res outs, Ret PG f_impl_GetField args res outs ∧ Φ res outs :=
  (comesP_of hl h).elim fun res h => h.elim fun outs h => ⟨res, outs, r_impl_GetField ok h.1, h.2⟩

def i_impl_AcctOk : IFn := ⟨52, [.t 2],
 .seq (.reg [⟨some 1, none, .box 11 (.t 0)⟩,
   ⟨some 2, none, .mov (.c (.bool false))⟩]) <|
 .seq (.draw [⟨some 3, none, .faddr 0 (.t 1)⟩,
   ⟨some 4, none, .load false 1 (.t 3)⟩,
   ⟨some 5, none, .call (.f f_impl_AcctIdOk) [.t 4] false false⟩,
   ⟨some 6, none, .mov (.t 5)⟩,
   ⟨some 7, some (6, true), .faddr 1 (.t 1)⟩,
   ⟨some 8, some (6, true), .load false 1 (.t 7)⟩,
   ⟨some 9, some (6, true), .call (.f f_impl_within) [.t 8, .c (.int .i64 0), .c (.int .i64 9007199254740992)] false false⟩,
   ⟨some 10, none, .pick (.t 6) (.t 9) (.c (.bool false))⟩,
   ⟨some 11, none, .mov (.t 10)⟩,
   ⟨some 12, some (11, true), .faddr 3 (.t 1)⟩,
   ⟨some 13, some (11, true), .load false 1 (.t 12)⟩,
   ⟨some 14, some (11, true), .call (.f f_impl_within) [.t 13, .c (.int .i64 0), .c (.int .i64 1000)] false false⟩,
   ⟨some 15, none, .pick (.t 11) (.t 14) (.c (.bool false))⟩,
   ⟨some 16, none, .mov (.t 15)⟩,
   ⟨some 17, some (16, true), .faddr 4 (.t 1)⟩,
   ⟨some 18, some (16, true), .load false 1 (.t 17)⟩,
   ⟨some 19, some (16, true), .call (.f f_impl_within) [.t 18, .c (.int .i64 0), .c (.int .i64 9007199254740992)] false false⟩,
   ⟨some 20, none, .pick (.t 16) (.t 19) (.c (.bool false))⟩,
   ⟨some 21, none, .mov (.t 20)⟩,
   ⟨some 22, some (21, true), .faddr 2 (.t 1)⟩,
   ⟨some 23, some (21, true), .load false 1 (.t 22)⟩,
   ⟨some 24, some (21, true), .call (.f f_impl_isMoney) [.t 23] false false⟩,
   ⟨some 25, none, .pick (.t 21) (.t 24) (.c (.bool false))⟩,
   ⟨some 26, none, .mov (.t 25)⟩,
   ⟨some 27, some (26, true), .faddr 5 (.t 1)⟩,
   ⟨some 28, some (26, true), .load false 1 (.t 27)⟩,
   ⟨some 29, some (26, true), .call (.f f_impl_HoldsOk) [.t 28] false false⟩,
   ⟨some 30, none, .pick (.t 26) (.t 29) (.c (.bool false))⟩,
   ⟨some 31, none, .mov (.t 30)⟩,
   ⟨some 32, some (31, true), .faddr 6 (.t 1)⟩,
   ⟨some 33, some (31, true), .load true 4 (.t 32)⟩,
   ⟨some 34, some (31, true), .call (.f f_impl_RingOk) [.t 33] false false⟩,
   ⟨some 35, none, .pick (.t 31) (.t 34) (.c (.bool false))⟩,
   ⟨some 36, none, .mov (.t 35)⟩,
   ⟨some 37, some (36, true), .faddr 10 (.t 1)⟩,
   ⟨some 38, some (36, true), .load false 1 (.t 37)⟩,
   ⟨some 39, some (36, true), .call (.f f_impl_SlotsOk) [.t 38] false false⟩,
   ⟨some 40, none, .pick (.t 36) (.t 39) (.c (.bool false))⟩,
   ⟨some 41, none, .mov (.t 40)⟩,
   ⟨some 42, some (41, true), .faddr 2 (.t 1)⟩,
   ⟨some 43, some (41, true), .load false 1 (.t 42)⟩,
   ⟨some 44, some (41, true), .faddr 5 (.t 1)⟩,
   ⟨some 45, some (41, true), .load false 1 (.t 44)⟩,
   ⟨some 46, some (41, true), .call (.f f_impl_Stored) [.t 45] false false⟩,
   ⟨some 47, some (41, true), .call (.f f_impl_AddSat) [.t 43, .t 46] false false⟩,
   ⟨some 48, some (41, true), .faddr 1 (.t 1)⟩,
   ⟨some 49, some (41, true), .load false 1 (.t 48)⟩,
   ⟨some 50, some (41, true), .bin .leq (.t 47) (.t 49)⟩,
   ⟨some 51, none, .pick (.t 41) (.t 50) (.c (.bool false))⟩,
   ⟨some 2, none, .mov (.t 51)⟩] [(39, 41), (40, 41), (39, 42), (40, 42), (39, 43), (40, 43), (39, 45), (40, 45), (41, 45), (42, 45), (43, 45), (44, 45), (39, 46), (40, 46), (41, 46), (42, 46), (43, 46), (44, 46)]) <|
 .ret⟩
theorem r_impl_AcctOk {args : List A} {res : R} {outs : List (List O)} (ok : okArgs args = true) (h : Comes PG i_impl_AcctOk args res outs) : Ret PG f_impl_AcctOk args res outs :=
  ret_of hmix Tryz.func73 (by kernel_rfl) ok h
theorem p_impl_AcctOk {args : List A} {Φ : R → List (List O) → Prop} (ok : okArgs args = true) (hl : decide (args.length ≤ i_impl_AcctOk.ntmps) = true)
    (h : den PG (finQ i_impl_AcctOk.res args Φ) [.code i_impl_AcctOk.body] .norm (st i_impl_AcctOk.ntmps (pairs 0 (entry 0 args).1) (entry 0 args).2)) : ∃ res outs, Ret PG f_impl_AcctOk args res outs ∧ Φ res outs :=
  (comesP_of hl h).elim fun res h => h.elim fun outs h => ⟨res, outs, r_impl_AcctOk ok h.1, h.2⟩

end
end Go.AW
