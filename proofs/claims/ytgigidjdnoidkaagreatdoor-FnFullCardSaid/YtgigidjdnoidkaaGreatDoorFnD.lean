/- Part 4 of the proof that laws.FnFull answers true at every input and leaves it as it was: an own small semantics of the translated code, contracts of the functions, the plain law. No condition. -/
import Derived.Test.YtgigidjdnoidkaaGreatDoorFnC
set_option linter.unusedVariables false
set_option linter.unusedSimpArgs false
set_option linter.unnecessarySimpa false
open Go.Proofs
namespace Go.AW
set_option maxRecDepth 10000
noncomputable section
def i_impl_Book_each : IFn := ⟨26, [.cell true 1 4],
 .seq (.reg [⟨some 2, none, .box 1 (.t 0)⟩,
   ⟨some 4, none, .alloc [.z 11]⟩]) <|
 .seq (.reg [⟨some 8, none, .build [.z 11] []⟩,
   ⟨some 5, none, .alloc [.z 11]⟩,
   ⟨none, none, .store 1 (.t 5) (.t 8)⟩]) <|
 .seq (.seq (.reg [⟨some 9, none, .faddr 0 (.t 2)⟩,
    ⟨some 10, none, .load false 1 (.t 9)⟩,
    ⟨some 11, none, .len false (.t 10)⟩,
    ⟨some 12, none, .mov (.c (.int .i64 0))⟩]) <|
  .blk 0 (
   .loop [1, 4, 5, 10, 11, 12] [] (
    .seq (.reg [⟨some 13, none, .bin .lss (.t 12) (.t 11)⟩]) <|
    .seq (.ite (.t 13) (
      .skip) (
      .exit 0)) <|
    .seq (.blk 1 (
      .seq (.reg [⟨some 14, none, .iaddr 11 (.t 10) (.t 12)⟩,
        ⟨some 15, none, .load true 11 (.t 14)⟩,
        ⟨some 7, none, .alloc [.str [], .int .i64 0, .int .i64 0, .int .i64 0, .int .i64 0, .z 3, .int .i64 0, .int .i64 0, .z 1, .z 1, .z 3]⟩,
        ⟨none, none, .store 11 (.t 7) (.t 15)⟩]) <|
      .draw [⟨some 16, none, .faddr 0 (.t 5)⟩,
       ⟨some 17, none, .load false 1 (.t 16)⟩,
       ⟨some 18, none, .mov (.t 1)⟩,
       ⟨some 19, none, .load true 11 (.t 7)⟩,
       ⟨some 20, none, .call (.t 18) [.t 19] true false⟩,
       ⟨some 21, none, .bslice 11 1 (.agg [.str [], .int .i64 0, .int .i64 0, .int .i64 0, .int .i64 0, .z 3, .int .i64 0, .int .i64 0, .z 1, .z 1, .z 3]) [(0, .t 20)]⟩,
       ⟨some 22, none, .app 11 160 (.t 17) (.t 21)⟩,
       ⟨some 23, none, .faddr 0 (.t 5)⟩,
       ⟨none, none, .store 1 (.t 23) (.t 22)⟩] [(0, 2), (1, 2), (0, 3), (1, 3), (2, 3), (0, 4), (1, 4), (0, 5), (1, 5)])) <|
    .reg [⟨some 24, none, .bin .add (.t 12) (.c (.int .i64 1))⟩,
     ⟨some 12, none, .mov (.t 24)⟩]))) <|
 .seq (.reg [⟨some 25, none, .load true 1 (.t 5)⟩,
   ⟨none, none, .store 1 (.t 4) (.t 25)⟩]) <|
 .ret⟩
theorem r_impl_Book_each {args : List A} {res : R} {outs : List (List O)} (ok : okArgs args = true) (h : Comes PG i_impl_Book_each args res outs) : Ret PG f_impl_Book_each args res outs :=
  ret_of hmix Tryz.func74 (by kernel_rfl) ok h
theorem p_impl_Book_each {args : List A} {Φ : R → List (List O) → Prop} (ok : okArgs args = true) (hl : decide (args.length ≤ i_impl_Book_each.ntmps) = true)
    (h : den PG (finQ i_impl_Book_each.res args Φ) [.code i_impl_Book_each.body] .norm (st i_impl_Book_each.ntmps (pairs 0 (entry 0 args).1) (entry 0 args).2)) : ∃ res outs, Ret PG f_impl_Book_each args res outs ∧ Φ res outs :=
  (comesP_of hl h).elim fun res h => h.elim fun outs h => ⟨res, outs, r_impl_Book_each ok h.1, h.2⟩

def i_impl_Acct_copied : IFn := ⟨16, [.cell true 11 2],
 .seq (.reg [⟨some 1, none, .box 11 (.t 0)⟩,
   ⟨some 2, none, .alloc [.str [], .int .i64 0, .int .i64 0, .int .i64 0, .int .i64 0, .z 3, .int .i64 0, .int .i64 0, .z 1, .z 1, .z 3]⟩]) <|
 .seq (.draw [⟨some 3, none, .faddr 5 (.t 1)⟩,
   ⟨some 4, none, .load false 1 (.t 3)⟩,
   ⟨some 5, none, .call (.f f_slices_Clone_impl_Hold_impl_Hold) [.t 4] true false⟩,
   ⟨some 6, none, .faddr 6 (.t 1)⟩,
   ⟨some 7, none, .load true 4 (.t 6)⟩,
   ⟨some 8, none, .call (.f f_impl_Ring_copied) [.t 7] true false⟩,
   ⟨some 9, none, .faddr 10 (.t 1)⟩,
   ⟨some 10, none, .load false 1 (.t 9)⟩,
   ⟨some 11, none, .call (.f f_impl_copySlots) [.t 10] true false⟩,
   ⟨some 12, none, .faddr 5 (.t 1)⟩,
   ⟨none, none, .store 1 (.t 12) (.t 5)⟩,
   ⟨some 13, none, .faddr 6 (.t 1)⟩,
   ⟨none, none, .store 4 (.t 13) (.t 8)⟩,
   ⟨some 14, none, .faddr 10 (.t 1)⟩,
   ⟨none, none, .store 1 (.t 14) (.t 11)⟩] [(0, 3), (1, 3), (2, 3), (0, 4), (1, 4), (2, 4), (0, 6), (1, 6), (2, 6), (3, 6), (4, 6), (5, 6), (0, 7), (1, 7), (2, 7), (3, 7), (4, 7), (5, 7), (5, 9), (8, 9)]) <|
 .seq (.reg [⟨some 15, none, .load true 11 (.t 1)⟩,
   ⟨none, none, .store 11 (.t 2) (.t 15)⟩]) <|
 .ret⟩
theorem r_impl_Acct_copied {args : List A} {res : R} {outs : List (List O)} (ok : okArgs args = true) (h : Comes PG i_impl_Acct_copied args res outs) : Ret PG f_impl_Acct_copied args res outs :=
  ret_of hmix Tryz.func75 (by kernel_rfl) ok h
theorem p_impl_Acct_copied {args : List A} {Φ : R → List (List O) → Prop} (ok : okArgs args = true) (hl : decide (args.length ≤ i_impl_Acct_copied.ntmps) = true)
    (h : den PG (finQ i_impl_Acct_copied.res args Φ) [.code i_impl_Acct_copied.body] .norm (st i_impl_Acct_copied.ntmps (pairs 0 (entry 0 args).1) (entry 0 args).2)) : ∃ res outs, Ret PG f_impl_Acct_copied args res outs ∧ Φ res outs :=
  (comesP_of hl h).elim fun res h => h.elim fun outs h => ⟨res, outs, r_impl_Acct_copied ok h.1, h.2⟩

def i_impl_piece : IFn := ⟨31, [.t 6, .t 7],
 .seq (.reg [⟨some 6, none, .mov (.c (.z 1))⟩,
   ⟨some 7, none, .mov (.c (.bool false))⟩]) <|
 .seq (.seq (.reg [⟨some 8, none, .mov (.t 1)⟩,
    ⟨some 9, none, .mov (.t 0)⟩,
    ⟨some 10, none, .len false (.t 9)⟩,
    ⟨some 11, none, .call (.f f_impl_within) [.t 8, .c (.int .i64 0), .t 10] false false⟩,
    ⟨some 12, none, .un .not (.t 11)⟩,
    ⟨some 13, none, .mov (.t 12)⟩,
    ⟨some 14, some (13, false), .mov (.t 2)⟩,
    ⟨some 15, some (13, false), .bin .lss (.t 14) (.c (.int .i64 0))⟩,
    ⟨some 16, none, .pick (.t 13) (.c (.bool true)) (.t 15)⟩,
    ⟨some 17, none, .mov (.t 16)⟩,
    ⟨some 18, some (17, false), .mov (.t 2)⟩,
    ⟨some 19, some (17, false), .mov (.t 0)⟩,
    ⟨some 20, some (17, false), .len false (.t 19)⟩,
    ⟨some 21, some (17, false), .mov (.t 1)⟩,
    ⟨some 22, some (17, false), .bin .sub (.t 20) (.t 21)⟩,
    ⟨some 23, some (17, false), .bin .gtr (.t 18) (.t 22)⟩,
    ⟨some 24, none, .pick (.t 17) (.c (.bool true)) (.t 23)⟩]) <|
  .ite (.t 24) (
   .seq (.reg [⟨some 6, none, .mov (.c (.z 1))⟩,
     ⟨some 7, none, .mov (.c (.bool false))⟩]) <|
   .ret) (
   .skip)) <|
 .seq (.reg [⟨some 25, none, .mov (.t 0)⟩,
   ⟨some 26, none, .mov (.t 1)⟩,
   ⟨some 27, none, .mov (.t 1)⟩,
   ⟨some 28, none, .mov (.t 2)⟩,
   ⟨some 29, none, .bin .add (.t 27) (.t 28)⟩,
   ⟨some 30, none, .slice 1 (.t 25) (some (.t 26)) (some (.t 29))⟩,
   ⟨some 6, none, .mov (.t 30)⟩,
   ⟨some 7, none, .mov (.c (.bool true))⟩]) <|
 .ret⟩
theorem r_impl_piece {args : List A} {res : R} {outs : List (List O)} (ok : okArgs args = true) (h : Comes PG i_impl_piece args res outs) : Ret PG f_impl_piece args res outs :=
  ret_of hmix Tryz.func76 (by kernel_rfl) ok h
theorem p_impl_piece {args : List A} {Φ : R → List (List O) → Prop} (ok : okArgs args = true) (hl : decide (args.length ≤ i_impl_piece.ntmps) = true)
    (h : den PG (finQ i_impl_piece.res args Φ) [.code i_impl_piece.body] .norm (st i_impl_piece.ntmps (pairs 0 (entry 0 args).1) (entry 0 args).2)) : ∃ res outs, Ret PG f_impl_piece args res outs ∧ Φ res outs :=
  (comesP_of hl h).elim fun res h => h.elim fun outs h => ⟨res, outs, r_impl_piece ok h.1, h.2⟩

def i_impl_RsText : IFn := ⟨10, [.t 2],
 .seq (.reg [⟨some 2, none, .mov (.c (.str []))⟩]) <|
 .seq (.seq (.reg [⟨some 3, none, .mov (.t 0)⟩,
    ⟨some 4, none, .call (.f f_impl_within) [.t 3, .c (.int .i64 0), .c (.int .i64 10)] false false⟩,
    ⟨some 5, none, .un .not (.t 4)⟩]) <|
  .ite (.t 5) (
   .seq (.reg [⟨some 2, none, .mov (.c (.str []))⟩]) <|
   .ret) (
   .skip)) <|
 .seq (.reg [⟨some 6, none, .call (.f f_impl_rsTexts) [] false false⟩,
   ⟨some 7, none, .mov (.t 0)⟩,
   ⟨some 8, none, .iaddr 1 (.t 6) (.t 7)⟩,
   ⟨some 9, none, .load false 1 (.t 8)⟩,
   ⟨some 2, none, .mov (.t 9)⟩]) <|
 .ret⟩
theorem r_impl_RsText {args : List A} {res : R} {outs : List (List O)} (ok : okArgs args = true) (h : Comes PG i_impl_RsText args res outs) : Ret PG f_impl_RsText args res outs :=
  ret_of hmix Tryz.func77 (by kernel_rfl) ok h
theorem p_impl_RsText {args : List A} {Φ : R → List (List O) → Prop} (ok : okArgs args = true) (hl : decide (args.length ≤ i_impl_RsText.ntmps) = true)
    (h : den PG (finQ i_impl_RsText.res args Φ) [.code i_impl_RsText.body] .norm (st i_impl_RsText.ntmps (pairs 0 (entry 0 args).1) (entry 0 args).2)) : ∃ res outs, Ret PG f_impl_RsText args res outs ∧ Φ res outs :=
  (comesP_of hl h).elim fun res h => h.elim fun outs h => ⟨res, outs, r_impl_RsText ok h.1, h.2⟩

def i_impl_MtiKnown : IFn := ⟨13, [.t 2],
 .seq (.reg [⟨some 2, none, .mov (.c (.bool false))⟩]) <|
 .seq (.reg [⟨some 3, none, .mov (.t 0)⟩,
   ⟨some 4, none, .bin .eql (.t 3) (.c (.str [48, 49, 48, 48]))⟩,
   ⟨some 5, none, .mov (.t 4)⟩,
   ⟨some 6, some (5, false), .mov (.t 0)⟩,
   ⟨some 7, some (5, false), .bin .eql (.t 6) (.c (.str [48, 50, 48, 48]))⟩,
   ⟨some 8, none, .pick (.t 5) (.c (.bool true)) (.t 7)⟩,
   ⟨some 9, none, .mov (.t 8)⟩,
   ⟨some 10, some (9, false), .mov (.t 0)⟩,
   ⟨some 11, some (9, false), .bin .eql (.t 10) (.c (.str [48, 50, 50, 48]))⟩,
   ⟨some 12, none, .pick (.t 9) (.c (.bool true)) (.t 11)⟩,
   ⟨some 2, none, .mov (.t 12)⟩]) <|
 .ret⟩
theorem r_impl_MtiKnown {args : List A} {res : R} {outs : List (List O)} (ok : okArgs args = true) (h : Comes PG i_impl_MtiKnown args res outs) : Ret PG f_impl_MtiKnown args res outs :=
  ret_of hmix Tryz.func78 (by kernel_rfl) ok h
theorem p_impl_MtiKnown {args : List A} {Φ : R → List (List O) → Prop} (ok : okArgs args = true) (hl : decide (args.length ≤ i_impl_MtiKnown.ntmps) = true)
    (h : den PG (finQ i_impl_MtiKnown.res args Φ) [.code i_impl_MtiKnown.body] .norm (st i_impl_MtiKnown.ntmps (pairs 0 (entry 0 args).1) (entry 0 args).2)) : ∃ res outs, Ret PG f_impl_MtiKnown args res outs ∧ Φ res outs :=
  (comesP_of hl h).elim fun res h => h.elim fun outs h => ⟨res, outs, r_impl_MtiKnown ok h.1, h.2⟩

def i_slices_IndexFunc_impl_opRow_impl_opRow : IFn := ⟨19, [.t 4],
 .seq (.reg [⟨some 4, none, .mov (.c (.int .i64 0))⟩]) <|
 .seq (.seq (.reg [⟨some 6, none, .mov (.t 0)⟩,
    ⟨some 7, none, .len false (.t 6)⟩,
    ⟨some 8, none, .mov (.c (.int .i64 0))⟩]) <|
  .blk 0 (
   .loop [0, 1, 7, 8] [] (
    .seq (.reg [⟨some 9, none, .bin .lss (.t 8) (.t 7)⟩]) <|
    .seq (.ite (.t 9) (
      .skip) (
      .exit 0)) <|
    .seq (.blk 1 (
      .seq (.reg [⟨some 10, none, .mov (.t 8)⟩,
        ⟨some 5, none, .mov (.t 10)⟩]) <|
      .seq (.reg [⟨some 11, none, .mov (.t 1)⟩,
        ⟨some 12, none, .mov (.t 0)⟩,
        ⟨some 13, none, .mov (.t 5)⟩,
        ⟨some 14, none, .iaddr 4 (.t 12) (.t 13)⟩,
        ⟨some 15, none, .load true 4 (.t 14)⟩,
        ⟨some 16, none, .call (.t 11) [.t 15] true false⟩]) <|
      .ite (.t 16) (
       .seq (.reg [⟨some 17, none, .mov (.t 5)⟩,
         ⟨some 4, none, .mov (.t 17)⟩]) <|
       .ret) (
       .skip))) <|
    .reg [⟨some 18, none, .bin .add (.t 8) (.c (.int .i64 1))⟩,
     ⟨some 8, none, .mov (.t 18)⟩]))) <|
 .seq (.reg [⟨some 4, none, .mov (.c (.int .i64 (-1)))⟩]) <|
 .ret⟩
theorem r_slices_IndexFunc_impl_opRow_impl_opRow {args : List A} {res : R} {outs : List (List O)} (ok : okArgs args = true) (h : Comes PG i_slices_IndexFunc_impl_opRow_impl_opRow args res outs) : Ret PG f_slices_IndexFunc_impl_opRow_impl_opRow args res outs :=
  ret_of hmix Tryz.func79 (by kernel_rfl) ok h
theorem p_slices_IndexFunc_impl_opRow_impl_opRow {args : List A} {Φ : R → List (List O) → Prop} (ok : okArgs args = true) (hl : decide (args.length ≤ i_slices_IndexFunc_impl_opRow_impl_opRow.ntmps) = true)
    (h : den PG (finQ i_slices_IndexFunc_impl_opRow_impl_opRow.res args Φ) [.code i_slices_IndexFunc_impl_opRow_impl_opRow.body] .norm (st i_slices_IndexFunc_impl_opRow_impl_opRow.ntmps (pairs 0 (entry 0 args).1) (entry 0 args).2)) : ∃ res outs, Ret PG f_slices_IndexFunc_impl_opRow_impl_opRow args res outs ∧ Φ res outs :=
  (comesP_of hl h).elim fun res h => h.elim fun outs h => ⟨res, outs, r_slices_IndexFunc_impl_opRow_impl_opRow ok h.1, h.2⟩

def i_impl_opRows : IFn := ⟨16, [.t 0],
 .seq (.reg [⟨some 0, none, .mov (.c (.z 4))⟩]) <|
 .seq (.reg [⟨some 1, none, .bslice 1 3 (.int .i64 0) [(0, .c (.int .i64 4)), (1, .c (.int .i64 14)), (2, .c (.int .i64 38))]⟩,
   ⟨some 2, none, .build [.str [], .str [], .str [], .z 1] [(0, 1, .c (.str [48, 49, 48, 48])), (1, 1, .c (.str [48, 48])), (2, 1, .c (.str [97, 117, 116, 104])), (3, 1, .t 1)]⟩,
   ⟨some 3, none, .bslice 1 2 (.int .i64 0) [(0, .c (.int .i64 4)), (1, .c (.int .i64 38))]⟩,
   ⟨some 4, none, .build [.str [], .str [], .str [], .z 1] [(0, 1, .c (.str [48, 49, 48, 48])), (1, 1, .c (.str [48, 50])), (2, 1, .c (.str [109, 111, 114, 101])), (3, 1, .t 3)]⟩,
   ⟨some 5, none, .bslice 1 2 (.int .i64 0) [(0, .c (.int .i64 4)), (1, .c (.int .i64 38))]⟩,
   ⟨some 6, none, .build [.str [], .str [], .str [], .z 1] [(0, 1, .c (.str [48, 50, 50, 48])), (1, 1, .c (.str [48, 49])), (2, 1, .c (.str [112, 97, 114, 116])), (3, 1, .t 5)]⟩,
   ⟨some 7, none, .bslice 1 2 (.int .i64 0) [(0, .c (.int .i64 4)), (1, .c (.int .i64 38))]⟩,
   ⟨some 8, none, .build [.str [], .str [], .str [], .z 1] [(0, 1, .c (.str [48, 50, 50, 48])), (1, 1, .c (.str [48, 48])), (2, 1, .c (.str [102, 105, 110, 97, 108])), (3, 1, .t 7)]⟩,
   ⟨some 9, none, .bslice 1 1 (.int .i64 0) [(0, .c (.int .i64 38))]⟩,
   ⟨some 10, none, .build [.str [], .str [], .str [], .z 1] [(0, 1, .c (.str [48, 50, 50, 48])), (1, 1, .c (.str [50, 48])), (2, 1, .c (.str [102, 114, 101, 101])), (3, 1, .t 9)]⟩,
   ⟨some 11, none, .bslice 1 2 (.int .i64 0) [(0, .c (.int .i64 38)), (1, .c (.int .i64 103))]⟩,
   ⟨some 12, none, .build [.str [], .str [], .str [], .z 1] [(0, 1, .c (.str [48, 50, 48, 48])), (1, 1, .c (.str [52, 48])), (2, 1, .c (.str [109, 111, 118, 101])), (3, 1, .t 11)]⟩,
   ⟨some 13, none, .build [.str [], .str [], .str [], .z 1] [(0, 1, .c (.str [48, 49, 48, 48])), (1, 1, .c (.str [51, 49])), (2, 1, .c (.str [97, 115, 107])), (3, 1, .c (.z 1))]⟩,
   ⟨some 14, none, .build [.str [], .str [], .str [], .z 1] [(0, 1, .c (.str [48, 50, 48, 48])), (1, 1, .c (.str [57, 48])), (2, 1, .c (.str [115, 119, 101, 101, 112])), (3, 1, .c (.z 1))]⟩,
   ⟨some 15, none, .bslice 4 8 (.agg [.str [], .str [], .str [], .z 1]) [(0, .t 2), (1, .t 4), (2, .t 6), (3, .t 8), (4, .t 10), (5, .t 12), (6, .t 13), (7, .t 14)]⟩,
   ⟨some 0, none, .mov (.t 15)⟩]) <|
 .ret⟩
theorem r_impl_opRows {args : List A} {res : R} {outs : List (List O)} (ok : okArgs args = true) (h : Comes PG i_impl_opRows args res outs) : Ret PG f_impl_opRows args res outs :=
  ret_of hmix Tryz.func80 (by kernel_rfl) ok h
theorem p_impl_opRows {args : List A} {Φ : R → List (List O) → Prop} (ok : okArgs args = true) (hl : decide (args.length ≤ i_impl_opRows.ntmps) = true)
    (h : den PG (finQ i_impl_opRows.res args Φ) [.code i_impl_opRows.body] .norm (st i_impl_opRows.ntmps (pairs 0 (entry 0 args).1) (entry 0 args).2)) : ∃ res outs, Ret PG f_impl_opRows args res outs ∧ Φ res outs :=
  (comesP_of hl h).elim fun res h => h.elim fun outs h => ⟨res, outs, r_impl_opRows ok h.1, h.2⟩

def i_impl_ReqOf_1 : IFn := ⟨17, [.t 4],
 .seq (.reg [⟨some 3, none, .box 4 (.t 0)⟩,
   ⟨some 4, none, .mov (.c (.bool false))⟩]) <|
 .seq (.draw [⟨some 5, none, .faddr 0 (.t 3)⟩,
   ⟨some 6, none, .load false 1 (.t 5)⟩,
   ⟨some 7, none, .faddr 0 (.t 1)⟩,
   ⟨some 8, none, .load false 1 (.t 7)⟩,
   ⟨some 9, none, .bin .eql (.t 6) (.t 8)⟩,
   ⟨some 10, none, .mov (.t 9)⟩,
   ⟨some 11, some (10, true), .faddr 1 (.t 3)⟩,
   ⟨some 12, some (10, true), .load false 1 (.t 11)⟩,
   ⟨some 13, some (10, true), .load false 1 (.t 2)⟩,
   ⟨some 14, some (10, true), .sstr (.t 13) none (some (.c (.int .i64 2)))⟩,
   ⟨some 15, some (10, true), .bin .eql (.t 12) (.t 14)⟩,
   ⟨some 16, none, .pick (.t 10) (.t 15) (.c (.bool false))⟩,
   ⟨some 4, none, .mov (.t 16)⟩] [(0, 2), (1, 2), (0, 3), (1, 3), (6, 8), (7, 8), (6, 9), (7, 9)]) <|
 .ret⟩
theorem r_impl_ReqOf_1 {args : List A} {res : R} {outs : List (List O)} (ok : okArgs args = true) (h : Comes PG i_impl_ReqOf_1 args res outs) : Ret PG f_impl_ReqOf_1 args res outs :=
  ret_of hmix Tryz.func81 (by kernel_rfl) ok h
theorem p_impl_ReqOf_1 {args : List A} {Φ : R → List (List O) → Prop} (ok : okArgs args = true) (hl : decide (args.length ≤ i_impl_ReqOf_1.ntmps) = true)
    (h : den PG (finQ i_impl_ReqOf_1.res args Φ) [.code i_impl_ReqOf_1.body] .norm (st i_impl_ReqOf_1.ntmps (pairs 0 (entry 0 args).1) (entry 0 args).2)) : ∃ res outs, Ret PG f_impl_ReqOf_1 args res outs ∧ Φ res outs :=
  (comesP_of hl h).elim fun res h => h.elim fun outs h => ⟨res, outs, r_impl_ReqOf_1 ok h.1, h.2⟩

def i_impl_Narrow : IFn := ⟨20, [.t 2, .t 3],
 .seq (.reg [⟨some 2, none, .mov (.c (.int .i64 0))⟩,
   ⟨some 3, none, .mov (.c (.bool false))⟩]) <|
 .seq (.seq (.reg [⟨some 6, none, .mov (.t 0)⟩,
    ⟨some 7, none, .call (.f f_impl_Digits) [.t 6] false false⟩,
    ⟨some 8, none, .un .not (.t 7)⟩,
    ⟨some 9, none, .mov (.t 8)⟩,
    ⟨some 10, some (9, false), .mov (.t 0)⟩,
    ⟨some 11, some (9, false), .len true (.t 10)⟩,
    ⟨some 12, some (9, false), .bin .gtr (.t 11) (.c (.int .i64 18))⟩,
    ⟨some 13, none, .pick (.t 9) (.c (.bool true)) (.t 12)⟩]) <|
  .ite (.t 13) (
   .seq (.reg [⟨some 2, none, .mov (.c (.int .i64 0))⟩,
     ⟨some 3, none, .mov (.c (.bool false))⟩]) <|
   .ret) (
   .skip)) <|
 .seq (.reg [⟨some 15, none, .mov (.t 0)⟩,
   ⟨some 16, none, .call (.f f_strconv_Atoi) [.t 15] false false⟩,
   ⟨some 14, none, .mov (.t 16)⟩,
   ⟨some 17, none, .extr (.t 14) 0⟩,
   ⟨some 18, none, .extr (.t 14) 1⟩,
   ⟨some 4, none, .mov (.t 17)⟩,
   ⟨some 5, none, .mov (.t 18)⟩]) <|
 .seq (.reg [⟨some 19, none, .mov (.t 4)⟩,
   ⟨some 2, none, .mov (.t 19)⟩,
   ⟨some 3, none, .mov (.c (.bool true))⟩]) <|
 .ret⟩
theorem r_impl_Narrow {args : List A} {res : R} {outs : List (List O)} (ok : okArgs args = true) (h : Comes PG i_impl_Narrow args res outs) : Ret PG f_impl_Narrow args res outs :=
  ret_of hmix Tryz.func82 (by kernel_rfl) ok h
theorem p_impl_Narrow {args : List A} {Φ : R → List (List O) → Prop} (ok : okArgs args = true) (hl : decide (args.length ≤ i_impl_Narrow.ntmps) = true)
    (h : den PG (finQ i_impl_Narrow.res args Φ) [.code i_impl_Narrow.body] .norm (st i_impl_Narrow.ntmps (pairs 0 (entry 0 args).1) (entry 0 args).2)) : ∃ res outs, Ret PG f_impl_Narrow args res outs ∧ Φ res outs :=
  (comesP_of hl h).elim fun res h => h.elim fun outs h => ⟨res, outs, r_impl_Narrow ok h.1, h.2⟩

def i_impl_FieldBare : IFn := ⟨5, [.t 2],
 .seq (.reg [⟨some 2, none, .mov (.c (.str []))⟩]) <|
 .seq (.reg [⟨some 3, none, .mov (.t 0)⟩,
   ⟨some 4, none, .call (.f f_strings_TrimRight) [.t 3, .c (.str [32])] false false⟩,
   ⟨some 2, none, .mov (.t 4)⟩]) <|
 .ret⟩
theorem r_impl_FieldBare {args : List A} {res : R} {outs : List (List O)} (ok : okArgs args = true) (h : Comes PG i_impl_FieldBare args res outs) : Ret PG f_impl_FieldBare args res outs :=
  ret_of hmix Tryz.func83 (by kernel_rfl) ok h
theorem p_impl_FieldBare {args : List A} {Φ : R → List (List O) → Prop} (ok : okArgs args = true) (hl : decide (args.length ≤ i_impl_FieldBare.ntmps) = true)
    (h : den PG (finQ i_impl_FieldBare.res args Φ) [.code i_impl_FieldBare.body] .norm (st i_impl_FieldBare.ntmps (pairs 0 (entry 0 args).1) (entry 0 args).2)) : ∃ res outs, Ret PG f_impl_FieldBare args res outs ∧ Φ res outs :=
  (comesP_of hl h).elim fun res h => h.elim fun outs h => ⟨res, outs, r_impl_FieldBare ok h.1, h.2⟩

def i_impl_Reply : IFn := ⟨88, [.cell true 2 8, .t 9],
 .seq (.reg [⟨some 4, none, .box 2 (.t 0)⟩,
   ⟨some 8, none, .alloc [.str [], .z 2]⟩,
   ⟨some 9, none, .mov (.c (.bool false))⟩]) <|
 .seq (.seq (.reg [⟨some 16, none, .load true 2 (.t 4)⟩,
    ⟨some 17, none, .call (.f f_impl_MsgOk) [.t 16] false false⟩,
    ⟨some 18, none, .un .not (.t 17)⟩,
    ⟨some 19, none, .mov (.t 18)⟩,
    ⟨some 20, some (19, false), .faddr 0 (.t 4)⟩,
    ⟨some 21, some (19, false), .load false 1 (.t 20)⟩,
    ⟨some 22, some (19, false), .call (.f f_impl_ReplyMti) [.t 21] false false⟩,
    ⟨some 23, some (19, false), .bin .eql (.t 22) (.c (.str []))⟩,
    ⟨some 24, none, .pick (.t 19) (.c (.bool true)) (.t 23)⟩,
    ⟨some 25, none, .mov (.t 24)⟩,
    ⟨some 26, some (25, false), .mov (.t 1)⟩,
    ⟨some 27, some (25, false), .call (.f f_impl_RsText) [.t 26] false false⟩,
    ⟨some 28, some (25, false), .bin .eql (.t 27) (.c (.str []))⟩,
    ⟨some 29, none, .pick (.t 25) (.c (.bool true)) (.t 28)⟩]) <|
  .ite (.t 29) (
   .seq (.reg [⟨some 30, none, .build [.str [], .z 2] []⟩,
     ⟨none, none, .store 2 (.t 8) (.t 30)⟩,
     ⟨some 9, none, .mov (.c (.bool false))⟩]) <|
   .ret) (
   .skip)) <|
 .seq (.reg [⟨some 31, none, .faddr 0 (.t 4)⟩,
   ⟨some 32, none, .load false 1 (.t 31)⟩,
   ⟨some 33, none, .call (.f f_impl_ReplyMti) [.t 32] false false⟩,
   ⟨some 34, none, .build [.str [], .z 2] [(0, 1, .t 33)]⟩,
   ⟨some 10, none, .alloc [.str [], .z 2]⟩,
   ⟨none, none, .store 2 (.t 10) (.t 34)⟩]) <|
 .seq (.reg [⟨some 35, none, .fn f_impl_Reply_1 [.t 10]⟩,
   ⟨some 11, none, .mov (.t 35)⟩]) <|
 .seq (.seq (.reg [⟨some 36, none, .bslice 1 13 (.int .i64 0) [(0, .c (.int .i64 2)), (1, .c (.int .i64 3)), (2, .c (.int .i64 4)), (3, .c (.int .i64 7)), (4, .c (.int .i64 11)), (5, .c (.int .i64 37)), (6, .c (.int .i64 38)), (7, .c (.int .i64 39)), (8, .c (.int .i64 41)), (9, .c (.int .i64 49)), (10, .c (.int .i64 54)), (11, .c (.int .i64 102)), (12, .c (.int .i64 103))]⟩,
    ⟨some 37, none, .len false (.t 36)⟩,
    ⟨some 38, none, .mov (.c (.int .i64 0))⟩]) <|
  .blk 0 (
   .loop [1, 2, 3, 4, 8, 10, 11, 36, 37, 38] [] (
    .seq (.reg [⟨some 39, none, .bin .lss (.t 38) (.t 37)⟩]) <|
    .seq (.ite (.t 39) (
      .skip) (
      .exit 0)) <|
    .seq (.blk 1 (
      .seq (.reg [⟨some 40, none, .iaddr 1 (.t 36) (.t 38)⟩,
        ⟨some 41, none, .load false 1 (.t 40)⟩,
        ⟨some 13, none, .mov (.t 41)⟩]) <|
      .seq (.reg [⟨some 43, none, .load true 2 (.t 4)⟩,
        ⟨some 44, none, .mov (.t 13)⟩,
        ⟨some 45, none, .call (.f f_impl_FieldOf) [.t 43, .t 44] false false⟩,
        ⟨some 42, none, .mov (.t 45)⟩,
        ⟨some 46, none, .extr (.t 42) 0⟩,
        ⟨some 47, none, .extr (.t 42) 1⟩,
        ⟨some 14, none, .mov (.t 46)⟩,
        ⟨some 15, none, .mov (.t 47)⟩]) <|
      .blk 2 (
       .seq (.reg [⟨some 49, none, .mov (.t 13)⟩,
         ⟨some 50, none, .bin .eql (.t 49) (.c (.int .i64 38))⟩,
         ⟨some 48, none, .mov (.t 50)⟩]) <|
       .ite (.t 48) (
        .seq (.reg [⟨some 51, none, .mov (.t 1)⟩,
          ⟨some 52, none, .bin .eql (.t 51) (.c (.int .i64 0))⟩,
          ⟨some 53, none, .mov (.t 52)⟩,
          ⟨some 54, some (53, true), .mov (.t 2)⟩,
          ⟨some 55, some (53, true), .bin .neq (.t 54) (.c (.str []))⟩,
          ⟨some 56, none, .pick (.t 53) (.t 55) (.c (.bool false))⟩]) <|
        .ite (.t 56) (
         .reg [⟨some 57, none, .mov (.t 11)⟩,
          ⟨some 58, none, .mov (.t 2)⟩,
          ⟨some 59, none, .call (.f f_impl_FieldFit) [.c (.int .i64 38), .t 58] false false⟩,
          ⟨some 60, none, .call (.t 57) [.c (.int .i64 38), .t 59] true false⟩]) (
         .skip)) (
        .seq (.reg [⟨some 62, none, .mov (.t 13)⟩,
          ⟨some 63, none, .bin .eql (.t 62) (.c (.int .i64 39))⟩,
          ⟨some 61, none, .mov (.t 63)⟩]) <|
        .ite (.t 61) (
         .reg [⟨some 64, none, .mov (.t 11)⟩,
          ⟨some 65, none, .mov (.t 1)⟩,
          ⟨some 66, none, .call (.f f_impl_RsText) [.t 65] false false⟩,
          ⟨some 67, none, .call (.t 64) [.c (.int .i64 39), .t 66] true false⟩]) (
         .seq (.reg [⟨some 69, none, .mov (.t 13)⟩,
           ⟨some 70, none, .bin .eql (.t 69) (.c (.int .i64 54))⟩,
           ⟨some 68, none, .mov (.t 70)⟩]) <|
         .ite (.t 68) (
          .seq (.reg [⟨some 71, none, .mov (.t 3)⟩,
            ⟨some 72, none, .bin .neq (.t 71) (.c (.str []))⟩]) <|
          .ite (.t 72) (
           .reg [⟨some 73, none, .mov (.t 11)⟩,
            ⟨some 74, none, .mov (.t 3)⟩,
            ⟨some 75, none, .call (.t 73) [.c (.int .i64 54), .t 74] true false⟩]) (
           .skip)) (
          .seq (.reg [⟨some 77, none, .mov (.t 15)⟩,
            ⟨some 76, none, .mov (.t 77)⟩]) <|
          .ite (.t 76) (
           .reg [⟨some 78, none, .mov (.t 11)⟩,
            ⟨some 79, none, .mov (.t 13)⟩,
            ⟨some 80, none, .mov (.t 14)⟩,
            ⟨some 81, none, .call (.t 78) [.t 79, .t 80] true false⟩]) (
           .skip))))))) <|
    .reg [⟨some 82, none, .bin .add (.t 38) (.c (.int .i64 1))⟩,
     ⟨some 38, none, .mov (.t 82)⟩]))) <|
 .seq (.seq (.reg [⟨some 83, none, .load true 2 (.t 10)⟩,
    ⟨some 84, none, .call (.f f_impl_MsgOk) [.t 83] false false⟩,
    ⟨some 85, none, .un .not (.t 84)⟩]) <|
  .ite (.t 85) (
   .seq (.reg [⟨some 86, none, .build [.str [], .z 2] []⟩,
     ⟨none, none, .store 2 (.t 8) (.t 86)⟩,
     ⟨some 9, none, .mov (.c (.bool false))⟩]) <|
   .ret) (
   .skip)) <|
 .seq (.reg [⟨some 87, none, .load true 2 (.t 10)⟩,
   ⟨none, none, .store 2 (.t 8) (.t 87)⟩,
   ⟨some 9, none, .mov (.c (.bool true))⟩]) <|
 .ret⟩
theorem r_impl_Reply {args : List A} {res : R} {outs : List (List O)} (ok : okArgs args = true) (h : Comes PG i_impl_Reply args res outs) : Ret PG f_impl_Reply args res outs :=
  ret_of hmix Tryz.func84 (by kernel_rfl) ok h
theorem p_impl_Reply {args : List A} {Φ : R → List (List O) → Prop} (ok : okArgs args = true) (hl : decide (args.length ≤ i_impl_Reply.ntmps) = true)
    (h : den PG (finQ i_impl_Reply.res args Φ) [.code i_impl_Reply.body] .norm (st i_impl_Reply.ntmps (pairs 0 (entry 0 args).1) (entry 0 args).2)) : ∃ res outs, Ret PG f_impl_Reply args res outs ∧ Φ res outs :=
  (comesP_of hl h).elim fun res h => h.elim fun outs h => ⟨res, outs, r_impl_Reply ok h.1, h.2⟩

def i_impl_slotAt : IFn := ⟨10, [.t 6],
 .seq (.reg [⟨some 4, none, .box 1 (.t 1)⟩,
   ⟨some 5, none, .box 1 (.t 2)⟩,
   ⟨some 6, none, .mov (.c (.int .i64 0))⟩]) <|
 .seq (.reg [⟨some 7, none, .mov (.t 0)⟩,
   ⟨some 8, none, .fn f_impl_slotAt_1 [.t 4, .t 5]⟩,
   ⟨some 9, none, .call (.f f_slices_IndexFunc_impl_Slot_impl_Slot) [.t 7, .t 8] false false⟩,
   ⟨some 6, none, .mov (.t 9)⟩]) <|
 .ret⟩
theorem r_impl_slotAt {args : List A} {res : R} {outs : List (List O)} (ok : okArgs args = true) (h : Comes PG i_impl_slotAt args res outs) : Ret PG f_impl_slotAt args res outs :=
  ret_of hmix Tryz.func85 (by kernel_rfl) ok h
theorem p_impl_slotAt {args : List A} {Φ : R → List (List O) → Prop} (ok : okArgs args = true) (hl : decide (args.length ≤ i_impl_slotAt.ntmps) = true)
    (h : den PG (finQ i_impl_slotAt.res args Φ) [.code i_impl_slotAt.body] .norm (st i_impl_slotAt.ntmps (pairs 0 (entry 0 args).1) (entry 0 args).2)) : ∃ res outs, Ret PG f_impl_slotAt args res outs ∧ Φ res outs :=
  (comesP_of hl h).elim fun res h => h.elim fun outs h => ⟨res, outs, r_impl_slotAt ok h.1, h.2⟩

def i_slices_Clone_byte_byte : IFn := ⟨8, [.t 2],
 .seq (.reg [⟨some 2, none, .mov (.c (.z 1))⟩]) <|
 .seq (.seq (.reg [⟨some 3, none, .mov (.t 0)⟩,
    ⟨some 4, none, .isnil 2 false (.t 3)⟩]) <|
  .ite (.t 4) (
   .seq (.reg [⟨some 2, none, .mov (.c (.z 1))⟩]) <|
   .ret) (
   .skip)) <|
 .seq (.reg [⟨some 5, none, .bslice 1 0 (.int .u8 0) []⟩,
   ⟨some 6, none, .mov (.t 0)⟩,
   ⟨some 7, none, .app 1 1 (.t 5) (.t 6)⟩,
   ⟨some 2, none, .mov (.t 7)⟩]) <|
 .ret⟩
theorem r_slices_Clone_byte_byte {args : List A} {res : R} {outs : List (List O)} (ok : okArgs args = true) (h : Comes PG i_slices_Clone_byte_byte args res outs) : Ret PG f_slices_Clone_byte_byte args res outs :=
  ret_of hmix Tryz.func86 (by kernel_rfl) ok h
theorem p_slices_Clone_byte_byte {args : List A} {Φ : R → List (List O) → Prop} (ok : okArgs args = true) (hl : decide (args.length ≤ i_slices_Clone_byte_byte.ntmps) = true)
    (h : den PG (finQ i_slices_Clone_byte_byte.res args Φ) [.code i_slices_Clone_byte_byte.body] .norm (st i_slices_Clone_byte_byte.ntmps (pairs 0 (entry 0 args).1) (entry 0 args).2)) : ∃ res outs, Ret PG f_slices_Clone_byte_byte args res outs ∧ Φ res outs :=
  (comesP_of hl h).elim fun res h => h.elim fun outs h => ⟨res, outs, r_slices_Clone_byte_byte ok h.1, h.2⟩

def i_impl_copySlots : IFn := ⟨26, [.t 2],
 .seq (.reg [⟨some 2, none, .mov (.c (.z 3))⟩]) <|
 .seq (.reg [⟨some 6, none, .bslice 3 0 (.agg [.str [], .str [], .z 1]) []⟩,
   ⟨some 3, none, .mov (.t 6)⟩]) <|
 .seq (.seq (.reg [⟨some 7, none, .mov (.t 0)⟩,
    ⟨some 8, none, .len false (.t 7)⟩,
    ⟨some 9, none, .mov (.c (.int .i64 0))⟩]) <|
  .blk 0 (
   .loop [3, 7, 8, 9] [] (
    .seq (.reg [⟨some 10, none, .bin .lss (.t 9) (.t 8)⟩]) <|
    .seq (.ite (.t 10) (
      .skip) (
      .exit 0)) <|
    .seq (.blk 1 (
      .seq (.reg [⟨some 11, none, .iaddr 3 (.t 7) (.t 9)⟩,
        ⟨some 12, none, .load true 3 (.t 11)⟩,
        ⟨some 5, none, .alloc [.str [], .str [], .z 1]⟩,
        ⟨none, none, .store 3 (.t 5) (.t 12)⟩]) <|
      .draw [⟨some 13, none, .mov (.t 3)⟩,
       ⟨some 14, none, .faddr 0 (.t 5)⟩,
       ⟨some 15, none, .load false 1 (.t 14)⟩,
       ⟨some 16, none, .faddr 1 (.t 5)⟩,
       ⟨some 17, none, .load false 1 (.t 16)⟩,
       ⟨some 18, none, .faddr 2 (.t 5)⟩,
       ⟨some 19, none, .load false 1 (.t 18)⟩,
       ⟨some 20, none, .call (.f f_slices_Clone_byte_byte) [.t 19] false false⟩,
       ⟨some 21, none, .build [.str [], .str [], .z 1] [(0, 1, .t 15), (1, 1, .t 17), (2, 1, .t 20)]⟩,
       ⟨some 22, none, .bslice 3 1 (.agg [.str [], .str [], .z 1]) [(0, .t 21)]⟩,
       ⟨some 23, none, .app 3 56 (.t 13) (.t 22)⟩,
       ⟨some 3, none, .mov (.t 23)⟩] [(0, 1), (0, 2), (0, 3), (1, 3), (2, 3), (0, 4), (1, 4), (2, 4), (0, 5), (1, 5), (2, 5), (3, 5), (4, 5), (0, 6), (1, 6), (2, 6), (3, 6), (4, 6), (0, 7), (1, 7), (2, 7), (3, 7), (4, 7), (0, 8), (0, 9)])) <|
    .reg [⟨some 24, none, .bin .add (.t 9) (.c (.int .i64 1))⟩,
     ⟨some 9, none, .mov (.t 24)⟩]))) <|
 .seq (.reg [⟨some 25, none, .mov (.t 3)⟩,
   ⟨some 2, none, .mov (.t 25)⟩]) <|
 .ret⟩
theorem r_impl_copySlots {args : List A} {res : R} {outs : List (List O)} (ok : okArgs args = true) (h : Comes PG i_impl_copySlots args res outs) : Ret PG f_impl_copySlots args res outs :=
  ret_of hmix Tryz.func94 (by kernel_rfl) ok h
theorem p_impl_copySlots {args : List A} {Φ : R → List (List O) → Prop} (ok : okArgs args = true) (hl : decide (args.length ≤ i_impl_copySlots.ntmps) = true)
    (h : den PG (finQ i_impl_copySlots.res args Φ) [.code i_impl_copySlots.body] .norm (st i_impl_copySlots.ntmps (pairs 0 (entry 0 args).1) (entry 0 args).2)) : ∃ res outs, Ret PG f_impl_copySlots args res outs ∧ Φ res outs :=
  (comesP_of hl h).elim fun res h => h.elim fun outs h => ⟨res, outs, r_impl_copySlots ok h.1, h.2⟩

def i_slices_Clone_impl_Slot_impl_Slot : IFn := ⟨8, [.t 2],
 .seq (.reg [⟨some 2, none, .mov (.c (.z 3))⟩]) <|
 .seq (.seq (.reg [⟨some 3, none, .mov (.t 0)⟩,
    ⟨some 4, none, .isnil 2 false (.t 3)⟩]) <|
  .ite (.t 4) (
   .seq (.reg [⟨some 2, none, .mov (.c (.z 3))⟩]) <|
   .ret) (
   .skip)) <|
 .seq (.reg [⟨some 5, none, .bslice 3 0 (.agg [.str [], .str [], .z 1]) []⟩,
   ⟨some 6, none, .mov (.t 0)⟩,
   ⟨some 7, none, .app 3 56 (.t 5) (.t 6)⟩,
   ⟨some 2, none, .mov (.t 7)⟩]) <|
 .ret⟩
theorem r_slices_Clone_impl_Slot_impl_Slot {args : List A} {res : R} {outs : List (List O)} (ok : okArgs args = true) (h : Comes PG i_slices_Clone_impl_Slot_impl_Slot args res outs) : Ret PG f_slices_Clone_impl_Slot_impl_Slot args res outs :=
  ret_of hmix Tryz.func95 (by kernel_rfl) ok h
theorem p_slices_Clone_impl_Slot_impl_Slot {args : List A} {Φ : R → List (List O) → Prop} (ok : okArgs args = true) (hl : decide (args.length ≤ i_slices_Clone_impl_Slot_impl_Slot.ntmps) = true)
    (h : den PG (finQ i_slices_Clone_impl_Slot_impl_Slot.res args Φ) [.code i_slices_Clone_impl_Slot_impl_Slot.body] .norm (st i_slices_Clone_impl_Slot_impl_Slot.ntmps (pairs 0 (entry 0 args).1) (entry 0 args).2)) : ∃ res outs, Ret PG f_slices_Clone_impl_Slot_impl_Slot args res outs ∧ Φ res outs :=
  (comesP_of hl h).elim fun res h => h.elim fun outs h => ⟨res, outs, r_slices_Clone_impl_Slot_impl_Slot ok h.1, h.2⟩

def i_impl_SlotsOk : IFn := ⟨29, [.t 2],
 .seq (.reg [⟨some 2, none, .mov (.c (.bool false))⟩]) <|
 .seq (.seq (.reg [⟨some 5, none, .mov (.t 0)⟩,
    ⟨some 6, none, .len false (.t 5)⟩,
    ⟨some 7, none, .mov (.c (.int .i64 0))⟩]) <|
  .blk 0 (
   .loop [0, 5, 6, 7] [] (
    .seq (.reg [⟨some 8, none, .bin .lss (.t 7) (.t 6)⟩]) <|
    .seq (.ite (.t 8) (
      .skip) (
      .exit 0)) <|
    .seq (.blk 1 (
      .seq (.reg [⟨some 9, none, .mov (.t 7)⟩,
        ⟨some 10, none, .iaddr 3 (.t 5) (.t 7)⟩,
        ⟨some 11, none, .load true 3 (.t 10)⟩,
        ⟨some 4, none, .alloc [.str [], .str [], .z 1]⟩,
        ⟨some 3, none, .mov (.t 9)⟩,
        ⟨none, none, .store 3 (.t 4) (.t 11)⟩]) <|
      .seq (.reg [⟨some 12, none, .load true 3 (.t 4)⟩,
        ⟨some 13, none, .call (.f f_impl_SlotOk) [.t 12] false false⟩,
        ⟨some 14, none, .un .not (.t 13)⟩,
        ⟨some 15, none, .mov (.t 14)⟩,
        ⟨some 16, some (15, false), .mov (.t 0)⟩,
        ⟨some 17, some (15, false), .faddr 0 (.t 4)⟩,
        ⟨some 18, some (15, false), .load false 1 (.t 17)⟩,
        ⟨some 19, some (15, false), .faddr 1 (.t 4)⟩,
        ⟨some 20, some (15, false), .load false 1 (.t 19)⟩,
        ⟨some 21, some (15, false), .call (.f f_impl_slotAt) [.t 16, .t 18, .t 20] false false⟩,
        ⟨some 22, some (15, false), .mov (.t 3)⟩,
        ⟨some 23, some (15, false), .bin .neq (.t 21) (.t 22)⟩,
        ⟨some 24, none, .pick (.t 15) (.c (.bool true)) (.t 23)⟩]) <|
      .ite (.t 24) (
       .seq (.reg [⟨some 2, none, .mov (.c (.bool false))⟩]) <|
       .ret) (
       .skip))) <|
    .reg [⟨some 25, none, .bin .add (.t 7) (.c (.int .i64 1))⟩,
     ⟨some 7, none, .mov (.t 25)⟩]))) <|
 .seq (.reg [⟨some 26, none, .mov (.t 0)⟩,
   ⟨some 27, none, .len false (.t 26)⟩,
   ⟨some 28, none, .bin .leq (.t 27) (.c (.int .i64 6))⟩,
   ⟨some 2, none, .mov (.t 28)⟩]) <|
 .ret⟩
theorem r_impl_SlotsOk {args : List A} {res : R} {outs : List (List O)} (ok : okArgs args = true) (h : Comes PG i_impl_SlotsOk args res outs) : Ret PG f_impl_SlotsOk args res outs :=
  ret_of hmix Tryz.func96 (by kernel_rfl) ok h
theorem p_impl_SlotsOk {args : List A} {Φ : R → List (List O) → Prop} (ok : okArgs args = true) (hl : decide (args.length ≤ i_impl_SlotsOk.ntmps) = true)
    (h : den PG (finQ i_impl_SlotsOk.res args Φ) [.code i_impl_SlotsOk.body] .norm (st i_impl_SlotsOk.ntmps (pairs 0 (entry 0 args).1) (entry 0 args).2)) : ∃ res outs, Ret PG f_impl_SlotsOk args res outs ∧ Φ res outs :=
  (comesP_of hl h).elim fun res h => h.elim fun outs h => ⟨res, outs, r_impl_SlotsOk ok h.1, h.2⟩

def i_slices_Index_string_string : IFn := ⟨19, [.t 4],
 .seq (.reg [⟨some 4, none, .mov (.c (.int .i64 0))⟩]) <|
 .seq (.seq (.reg [⟨some 6, none, .mov (.t 0)⟩,
    ⟨some 7, none, .len false (.t 6)⟩,
    ⟨some 8, none, .mov (.c (.int .i64 0))⟩]) <|
  .blk 0 (
   .loop [0, 1, 7, 8] [] (
    .seq (.reg [⟨some 9, none, .bin .lss (.t 8) (.t 7)⟩]) <|
    .seq (.ite (.t 9) (
      .skip) (
      .exit 0)) <|
    .seq (.blk 1 (
      .seq (.reg [⟨some 10, none, .mov (.t 8)⟩,
        ⟨some 5, none, .mov (.t 10)⟩]) <|
      .seq (.reg [⟨some 11, none, .mov (.t 1)⟩,
        ⟨some 12, none, .mov (.t 0)⟩,
        ⟨some 13, none, .mov (.t 5)⟩,
        ⟨some 14, none, .iaddr 1 (.t 12) (.t 13)⟩,
        ⟨some 15, none, .load false 1 (.t 14)⟩,
        ⟨some 16, none, .bin .eql (.t 11) (.t 15)⟩]) <|
      .ite (.t 16) (
       .seq (.reg [⟨some 17, none, .mov (.t 5)⟩,
         ⟨some 4, none, .mov (.t 17)⟩]) <|
       .ret) (
       .skip))) <|
    .reg [⟨some 18, none, .bin .add (.t 8) (.c (.int .i64 1))⟩,
     ⟨some 8, none, .mov (.t 18)⟩]))) <|
 .seq (.reg [⟨some 4, none, .mov (.c (.int .i64 (-1)))⟩]) <|
 .ret⟩
theorem r_slices_Index_string_string {args : List A} {res : R} {outs : List (List O)} (ok : okArgs args = true) (h : Comes PG i_slices_Index_string_string args res outs) : Ret PG f_slices_Index_string_string args res outs :=
  ret_of hmix Tryz.func97 (by kernel_rfl) ok h
theorem p_slices_Index_string_string {args : List A} {Φ : R → List (List O) → Prop} (ok : okArgs args = true) (hl : decide (args.length ≤ i_slices_Index_string_string.ntmps) = true)
    (h : den PG (finQ i_slices_Index_string_string.res args Φ) [.code i_slices_Index_string_string.body] .norm (st i_slices_Index_string_string.ntmps (pairs 0 (entry 0 args).1) (entry 0 args).2)) : ∃ res outs, Ret PG f_slices_Index_string_string args res outs ∧ Φ res outs :=
  (comesP_of hl h).elim fun res h => h.elim fun outs h => ⟨res, outs, r_slices_Index_string_string ok h.1, h.2⟩

def i_impl_rsTexts : IFn := ⟨2, [.t 0],
 .seq (.reg [⟨some 0, none, .mov (.c (.z 1))⟩]) <|
 .seq (.reg [⟨some 1, none, .bslice 1 11 (.str []) [(0, .c (.str [48, 48])), (1, .c (.str [51, 48])), (2, .c (.str [49, 50])), (3, .c (.str [49, 52])), (4, .c (.str [49, 51])), (5, .c (.str [50, 53])), (6, .c (.str [57, 52])), (7, .c (.str [53, 49])), (8, .c (.str [54, 53])), (9, .c (.str [54, 49])), (10, .c (.str [57, 54]))]⟩,
   ⟨some 0, none, .mov (.t 1)⟩]) <|
 .ret⟩
theorem r_impl_rsTexts {args : List A} {res : R} {outs : List (List O)} (ok : okArgs args = true) (h : Comes PG i_impl_rsTexts args res outs) : Ret PG f_impl_rsTexts args res outs :=
  ret_of hmix Tryz.func98 (by kernel_rfl) ok h
theorem p_impl_rsTexts {args : List A} {Φ : R → List (List O) → Prop} (ok : okArgs args = true) (hl : decide (args.length ≤ i_impl_rsTexts.ntmps) = true)
    (h : den PG (finQ i_impl_rsTexts.res args Φ) [.code i_impl_rsTexts.body] .norm (st i_impl_rsTexts.ntmps (pairs 0 (entry 0 args).1) (entry 0 args).2)) : ∃ res outs, Ret PG f_impl_rsTexts args res outs ∧ Φ res outs :=
  (comesP_of hl h).elim fun res h => h.elim fun outs h => ⟨res, outs, r_impl_rsTexts ok h.1, h.2⟩

def i_slices_Equal_impl_Hold_impl_Hold : IFn := ⟨26, [.t 4],
 .seq (.reg [⟨some 4, none, .mov (.c (.bool false))⟩]) <|
 .seq (.seq (.reg [⟨some 6, none, .mov (.t 0)⟩,
    ⟨some 7, none, .len false (.t 6)⟩,
    ⟨some 8, none, .mov (.t 1)⟩,
    ⟨some 9, none, .len false (.t 8)⟩,
    ⟨some 10, none, .bin .neq (.t 7) (.t 9)⟩]) <|
  .ite (.t 10) (
   .seq (.reg [⟨some 4, none, .mov (.c (.bool false))⟩]) <|
   .ret) (
   .skip)) <|
 .seq (.seq (.reg [⟨some 11, none, .mov (.t 0)⟩,
    ⟨some 12, none, .len false (.t 11)⟩,
    ⟨some 13, none, .mov (.c (.int .i64 0))⟩]) <|
  .blk 0 (
   .loop [0, 1, 12, 13] [] (
    .seq (.reg [⟨some 14, none, .bin .lss (.t 13) (.t 12)⟩]) <|
    .seq (.ite (.t 14) (
      .skip) (
      .exit 0)) <|
    .seq (.blk 1 (
      .seq (.reg [⟨some 15, none, .mov (.t 13)⟩,
        ⟨some 5, none, .mov (.t 15)⟩]) <|
      .seq (.draw [⟨some 16, none, .mov (.t 0)⟩,
        ⟨some 17, none, .mov (.t 5)⟩,
        ⟨some 18, none, .iaddr 3 (.t 16) (.t 17)⟩,
        ⟨some 19, none, .load true 3 (.t 18)⟩,
        ⟨some 20, none, .mov (.t 1)⟩,
        ⟨some 21, none, .mov (.t 5)⟩,
        ⟨some 22, none, .iaddr 3 (.t 20) (.t 21)⟩,
        ⟨some 23, none, .load true 3 (.t 22)⟩,
        ⟨some 24, none, .aeq true [1, 0, 0] (.t 19) (.t 23)⟩] [(0, 1), (0, 4), (1, 4), (2, 4), (3, 4), (0, 5), (1, 5), (2, 5), (3, 5), (4, 5), (0, 6), (1, 6), (2, 6), (3, 6), (0, 7), (1, 7), (2, 7), (3, 7)]) <|
      .ite (.t 24) (
       .seq (.reg [⟨some 4, none, .mov (.c (.bool false))⟩]) <|
       .ret) (
       .skip))) <|
    .reg [⟨some 25, none, .bin .add (.t 13) (.c (.int .i64 1))⟩,
     ⟨some 13, none, .mov (.t 25)⟩]))) <|
 .seq (.reg [⟨some 4, none, .mov (.c (.bool true))⟩]) <|
 .ret⟩
theorem r_slices_Equal_impl_Hold_impl_Hold {args : List A} {res : R} {outs : List (List O)} (ok : okArgs args = true) (h : Comes PG i_slices_Equal_impl_Hold_impl_Hold args res outs) : Ret PG f_slices_Equal_impl_Hold_impl_Hold args res outs :=
  ret_of hmix Tryz.func99 (by kernel_rfl) ok h
theorem p_slices_Equal_impl_Hold_impl_Hold {args : List A} {Φ : R → List (List O) → Prop} (ok : okArgs args = true) (hl : decide (args.length ≤ i_slices_Equal_impl_Hold_impl_Hold.ntmps) = true)
    (h : den PG (finQ i_slices_Equal_impl_Hold_impl_Hold.res args Φ) [.code i_slices_Equal_impl_Hold_impl_Hold.body] .norm (st i_slices_Equal_impl_Hold_impl_Hold.ntmps (pairs 0 (entry 0 args).1) (entry 0 args).2)) : ∃ res outs, Ret PG f_slices_Equal_impl_Hold_impl_Hold args res outs ∧ Φ res outs :=
  (comesP_of hl h).elim fun res h => h.elim fun outs h => ⟨res, outs, r_slices_Equal_impl_Hold_impl_Hold ok h.1, h.2⟩

def i_impl_ringSame : IFn := ⟨31, [.t 4],
 .seq (.reg [⟨some 2, none, .box 4 (.t 0)⟩,
   ⟨some 3, none, .box 4 (.t 1)⟩,
   ⟨some 4, none, .mov (.c (.bool false))⟩]) <|
 .seq (.reg [⟨some 5, none, .faddr 0 (.t 2)⟩,
   ⟨some 6, none, .load false 1 (.t 5)⟩,
   ⟨some 7, none, .faddr 0 (.t 3)⟩,
   ⟨some 8, none, .load false 1 (.t 7)⟩,
   ⟨some 9, none, .bin .eql (.t 6) (.t 8)⟩,
   ⟨some 10, none, .mov (.t 9)⟩,
   ⟨some 11, some (10, true), .faddr 1 (.t 2)⟩,
   ⟨some 12, some (10, true), .load false 1 (.t 11)⟩,
   ⟨some 13, some (10, true), .faddr 1 (.t 3)⟩,
   ⟨some 14, some (10, true), .load false 1 (.t 13)⟩,
   ⟨some 15, some (10, true), .bin .eql (.t 12) (.t 14)⟩,
   ⟨some 16, none, .pick (.t 10) (.t 15) (.c (.bool false))⟩,
   ⟨some 17, none, .mov (.t 16)⟩,
   ⟨some 18, some (17, true), .faddr 2 (.t 2)⟩,
   ⟨some 19, some (17, true), .load false 1 (.t 18)⟩,
   ⟨some 20, some (17, true), .faddr 2 (.t 3)⟩,
   ⟨some 21, some (17, true), .load false 1 (.t 20)⟩,
   ⟨some 22, some (17, true), .call (.f f_slices_Equal_int_int) [.t 19, .t 21] false false⟩,
   ⟨some 23, none, .pick (.t 17) (.t 22) (.c (.bool false))⟩,
   ⟨some 24, none, .mov (.t 23)⟩,
   ⟨some 25, some (24, true), .faddr 3 (.t 2)⟩,
   ⟨some 26, some (24, true), .load false 1 (.t 25)⟩,
   ⟨some 27, some (24, true), .faddr 3 (.t 3)⟩,
   ⟨some 28, some (24, true), .load false 1 (.t 27)⟩,
   ⟨some 29, some (24, true), .call (.f f_slices_Equal_int_int) [.t 26, .t 28] false false⟩,
   ⟨some 30, none, .pick (.t 24) (.t 29) (.c (.bool false))⟩,
   ⟨some 4, none, .mov (.t 30)⟩]) <|
 .ret⟩
theorem r_impl_ringSame {args : List A} {res : R} {outs : List (List O)} (ok : okArgs args = true) (h : Comes PG i_impl_ringSame args res outs) : Ret PG f_impl_ringSame args res outs :=
  ret_of hmix Tryz.func100 (by kernel_rfl) ok h
theorem p_impl_ringSame {args : List A} {Φ : R → List (List O) → Prop} (ok : okArgs args = true) (hl : decide (args.length ≤ i_impl_ringSame.ntmps) = true)
    (h : den PG (finQ i_impl_ringSame.res args Φ) [.code i_impl_ringSame.body] .norm (st i_impl_ringSame.ntmps (pairs 0 (entry 0 args).1) (entry 0 args).2)) : ∃ res outs, Ret PG f_impl_ringSame args res outs ∧ Φ res outs :=
  (comesP_of hl h).elim fun res h => h.elim fun outs h => ⟨res, outs, r_impl_ringSame ok h.1, h.2⟩

def i_impl_SlotsSame : IFn := ⟨8, [.t 4],
 .seq (.reg [⟨some 4, none, .mov (.c (.bool false))⟩]) <|
 .seq (.reg [⟨some 5, none, .mov (.t 0)⟩,
   ⟨some 6, none, .mov (.t 1)⟩,
   ⟨some 7, none, .call (.f f_slices_EqualFunc_impl_Slot_impl_Slot_impl_Slot_impl_Slot) [.t 5, .t 6, .f f_impl_SlotsSame_1] false false⟩,
   ⟨some 4, none, .mov (.t 7)⟩]) <|
 .ret⟩
theorem r_impl_SlotsSame {args : List A} {res : R} {outs : List (List O)} (ok : okArgs args = true) (h : Comes PG i_impl_SlotsSame args res outs) : Ret PG f_impl_SlotsSame args res outs :=
  ret_of hmix Tryz.func101 (by kernel_rfl) ok h
theorem p_impl_SlotsSame {args : List A} {Φ : R → List (List O) → Prop} (ok : okArgs args = true) (hl : decide (args.length ≤ i_impl_SlotsSame.ntmps) = true)
    (h : den PG (finQ i_impl_SlotsSame.res args Φ) [.code i_impl_SlotsSame.body] .norm (st i_impl_SlotsSame.ntmps (pairs 0 (entry 0 args).1) (entry 0 args).2)) : ∃ res outs, Ret PG f_impl_SlotsSame args res outs ∧ Φ res outs :=
  (comesP_of hl h).elim fun res h => h.elim fun outs h => ⟨res, outs, r_impl_SlotsSame ok h.1, h.2⟩

def i_spec_RingNew : IFn := ⟨21, [.cell true 4 4, .t 5],
 .seq (.reg [⟨some 4, none, .alloc [.int .i64 0, .int .i64 0, .z 1, .z 1]⟩,
   ⟨some 5, none, .mov (.c (.bool false))⟩]) <|
 .seq (.seq (.reg [⟨some 6, none, .mov (.t 0)⟩,
    ⟨some 7, none, .call (.f f_spec_l01In) [.t 6, .c (.int .i64 1), .c (.int .i64 8)] false false⟩,
    ⟨some 8, none, .un .not (.t 7)⟩,
    ⟨some 9, none, .mov (.t 8)⟩,
    ⟨some 10, some (9, false), .mov (.t 1)⟩,
    ⟨some 11, some (9, false), .call (.f f_spec_l01In) [.t 10, .c (.int .i64 1), .c (.int .i64 1000)] false false⟩,
    ⟨some 12, some (9, false), .un .not (.t 11)⟩,
    ⟨some 13, none, .pick (.t 9) (.c (.bool true)) (.t 12)⟩]) <|
  .ite (.t 13) (
   .seq (.reg [⟨some 14, none, .build [.int .i64 0, .int .i64 0, .z 1, .z 1] []⟩,
     ⟨none, none, .store 4 (.t 4) (.t 14)⟩,
     ⟨some 5, none, .mov (.c (.bool false))⟩]) <|
   .ret) (
   .skip)) <|
 .seq (.draw [⟨some 15, none, .mov (.t 1)⟩,
   ⟨some 16, none, .mov (.t 0)⟩,
   ⟨some 17, none, .mks 1 8 (.int .i64 0) (.t 16) (.t 16)⟩,
   ⟨some 18, none, .mov (.t 0)⟩,
   ⟨some 19, none, .mks 1 8 (.int .i64 0) (.t 18) (.t 18)⟩,
   ⟨some 20, none, .build [.int .i64 0, .int .i64 0, .z 1, .z 1] [(0, 1, .t 15), (2, 1, .t 17), (3, 1, .t 19)]⟩,
   ⟨none, none, .store 4 (.t 4) (.t 20)⟩,
   ⟨some 5, none, .mov (.c (.bool true))⟩] [(0, 1), (0, 2), (0, 3), (1, 3), (2, 3), (0, 4), (1, 4), (2, 4)]) <|
 .ret⟩
theorem r_spec_RingNew {args : List A} {res : R} {outs : List (List O)} (ok : okArgs args = true) (h : Comes PG i_spec_RingNew args res outs) : Ret PG f_spec_RingNew args res outs :=
  ret_of hmix Tryz.func102 (by kernel_rfl) ok h
theorem p_spec_RingNew {args : List A} {Φ : R → List (List O) → Prop} (ok : okArgs args = true) (hl : decide (args.length ≤ i_spec_RingNew.ntmps) = true)
    (h : den PG (finQ i_spec_RingNew.res args Φ) [.code i_spec_RingNew.body] .norm (st i_spec_RingNew.ntmps (pairs 0 (entry 0 args).1) (entry 0 args).2)) : ∃ res outs, Ret PG f_spec_RingNew args res outs ∧ Φ res outs :=
  (comesP_of hl h).elim fun res h => h.elim fun outs h => ⟨res, outs, r_spec_RingNew ok h.1, h.2⟩

def i_spec_AcctOk : IFn := ⟨55, [.t 2],
 .seq (.reg [⟨some 1, none, .box 11 (.t 0)⟩,
   ⟨some 2, none, .mov (.c (.bool false))⟩]) <|
 .seq (.seq (.reg [⟨some 3, none, .faddr 0 (.t 1)⟩,
    ⟨some 4, none, .load false 1 (.t 3)⟩,
    ⟨some 5, none, .call (.f f_spec_AcctIdOk) [.t 4] false false⟩,
    ⟨some 6, none, .un .not (.t 5)⟩,
    ⟨some 7, none, .mov (.t 6)⟩,
    ⟨some 8, some (7, false), .faddr 1 (.t 1)⟩,
    ⟨some 9, some (7, false), .load false 1 (.t 8)⟩,
    ⟨some 10, some (7, false), .call (.f f_spec_l01In) [.t 9, .c (.int .i64 0), .c (.int .i64 9007199254740992)] false false⟩,
    ⟨some 11, some (7, false), .un .not (.t 10)⟩,
    ⟨some 12, none, .pick (.t 7) (.c (.bool true)) (.t 11)⟩,
    ⟨some 13, none, .mov (.t 12)⟩,
    ⟨some 14, some (13, false), .faddr 3 (.t 1)⟩,
    ⟨some 15, some (13, false), .load false 1 (.t 14)⟩,
    ⟨some 16, some (13, false), .call (.f f_spec_l01In) [.t 15, .c (.int .i64 0), .c (.int .i64 1000)] false false⟩,
    ⟨some 17, some (13, false), .un .not (.t 16)⟩,
    ⟨some 18, none, .pick (.t 13) (.c (.bool true)) (.t 17)⟩,
    ⟨some 19, none, .mov (.t 18)⟩,
    ⟨some 20, some (19, false), .faddr 4 (.t 1)⟩,
    ⟨some 21, some (19, false), .load false 1 (.t 20)⟩,
    ⟨some 22, some (19, false), .call (.f f_spec_l01In) [.t 21, .c (.int .i64 0), .c (.int .i64 9007199254740992)] false false⟩,
    ⟨some 23, some (19, false), .un .not (.t 22)⟩,
    ⟨some 24, none, .pick (.t 19) (.c (.bool true)) (.t 23)⟩,
    ⟨some 25, none, .mov (.t 24)⟩,
    ⟨some 26, some (25, false), .faddr 2 (.t 1)⟩,
    ⟨some 27, some (25, false), .load false 1 (.t 26)⟩,
    ⟨some 28, some (25, false), .call (.f f_spec_l01Money) [.t 27] false false⟩,
    ⟨some 29, some (25, false), .un .not (.t 28)⟩,
    ⟨some 30, none, .pick (.t 25) (.c (.bool true)) (.t 29)⟩]) <|
  .ite (.t 30) (
   .seq (.reg [⟨some 2, none, .mov (.c (.bool false))⟩]) <|
   .ret) (
   .skip)) <|
 .seq (.draw [⟨some 31, none, .faddr 5 (.t 1)⟩,
   ⟨some 32, none, .load false 1 (.t 31)⟩,
   ⟨some 33, none, .call (.f f_spec_HoldsOk) [.t 32] false false⟩,
   ⟨some 34, none, .mov (.t 33)⟩,
   ⟨some 35, some (34, true), .faddr 6 (.t 1)⟩,
   ⟨some 36, some (34, true), .load true 4 (.t 35)⟩,
   ⟨some 37, some (34, true), .call (.f f_spec_RingOk) [.t 36] false false⟩,
   ⟨some 38, none, .pick (.t 34) (.t 37) (.c (.bool false))⟩,
   ⟨some 39, none, .mov (.t 38)⟩,
   ⟨some 40, some (39, true), .faddr 10 (.t 1)⟩,
   ⟨some 41, some (39, true), .load false 1 (.t 40)⟩,
   ⟨some 42, some (39, true), .call (.f f_spec_SlotsOk) [.t 41] false false⟩,
   ⟨some 43, none, .pick (.t 39) (.t 42) (.c (.bool false))⟩,
   ⟨some 44, none, .mov (.t 43)⟩,
   ⟨some 45, some (44, true), .faddr 2 (.t 1)⟩,
   ⟨some 46, some (44, true), .load false 1 (.t 45)⟩,
   ⟨some 47, some (44, true), .faddr 5 (.t 1)⟩,
   ⟨some 48, some (44, true), .load false 1 (.t 47)⟩,
   ⟨some 49, some (44, true), .call (.f f_spec_Stored) [.t 48] false false⟩,
   ⟨some 50, some (44, true), .call (.f f_spec_AddSat) [.t 46, .t 49] false false⟩,
   ⟨some 51, some (44, true), .faddr 1 (.t 1)⟩,
   ⟨some 52, some (44, true), .load false 1 (.t 51)⟩,
   ⟨some 53, some (44, true), .bin .leq (.t 50) (.t 52)⟩,
   ⟨some 54, none, .pick (.t 44) (.t 53) (.c (.bool false))⟩,
   ⟨some 2, none, .mov (.t 54)⟩] [(14, 16), (15, 16), (14, 17), (15, 17), (14, 18), (15, 18), (14, 20), (15, 20), (16, 20), (17, 20), (18, 20), (19, 20), (14, 21), (15, 21), (16, 21), (17, 21), (18, 21), (19, 21)]) <|
 .ret⟩
theorem r_spec_AcctOk {args : List A} {res : R} {outs : List (List O)} (ok : okArgs args = true) (h : Comes PG i_spec_AcctOk args res outs) : Ret PG f_spec_AcctOk args res outs :=
  ret_of hmix Tryz.func103 (by kernel_rfl) ok h
theorem p_spec_AcctOk {args : List A} {Φ : R → List (List O) → Prop} (ok : okArgs args = true) (hl : decide (args.length ≤ i_spec_AcctOk.ntmps) = true)
    (h : den PG (finQ i_spec_AcctOk.res args Φ) [.code i_spec_AcctOk.body] .norm (st i_spec_AcctOk.ntmps (pairs 0 (entry 0 args).1) (entry 0 args).2)) : ∃ res outs, Ret PG f_spec_AcctOk args res outs ∧ Φ res outs :=
  (comesP_of hl h).elim fun res h => h.elim fun outs h => ⟨res, outs, r_spec_AcctOk ok h.1, h.2⟩

def i_spec_RingAdd : IFn := ⟨44, [.cell true 4 6],
 .seq (.reg [⟨some 3, none, .box 4 (.t 0)⟩,
   ⟨some 6, none, .alloc [.int .i64 0, .int .i64 0, .z 1, .z 1]⟩]) <|
 .seq (.seq (.reg [⟨some 8, none, .load true 4 (.t 3)⟩,
    ⟨some 9, none, .call (.f f_spec_RingOk) [.t 8] false false⟩,
    ⟨some 10, none, .un .not (.t 9)⟩,
    ⟨some 11, none, .mov (.t 10)⟩,
    ⟨some 12, some (11, false), .mov (.t 1)⟩,
    ⟨some 13, some (11, false), .call (.f f_spec_l06Time) [.t 12] false false⟩,
    ⟨some 14, some (11, false), .un .not (.t 13)⟩,
    ⟨some 15, none, .pick (.t 11) (.c (.bool true)) (.t 14)⟩,
    ⟨some 16, none, .mov (.t 15)⟩,
    ⟨some 17, some (16, false), .mov (.t 2)⟩,
    ⟨some 18, some (16, false), .call (.f f_spec_l01Money) [.t 17] false false⟩,
    ⟨some 19, some (16, false), .un .not (.t 18)⟩,
    ⟨some 20, none, .pick (.t 16) (.c (.bool true)) (.t 19)⟩]) <|
  .ite (.t 20) (
   .seq (.reg [⟨some 21, none, .load true 4 (.t 3)⟩,
     ⟨some 22, none, .call (.f f_spec_l06Copy) [.t 21] true false⟩,
     ⟨none, none, .store 4 (.t 6) (.t 22)⟩]) <|
   .ret) (
   .skip)) <|
 .seq (.reg [⟨some 23, none, .load true 4 (.t 3)⟩,
   ⟨some 24, none, .mov (.t 1)⟩,
   ⟨some 25, none, .call (.f f_spec_RingRoll) [.t 23, .t 24] true false⟩,
   ⟨some 7, none, .alloc [.int .i64 0, .int .i64 0, .z 1, .z 1]⟩,
   ⟨none, none, .store 4 (.t 7) (.t 25)⟩]) <|
 .seq (.draw [⟨some 26, none, .faddr 2 (.t 7)⟩,
   ⟨some 27, none, .load false 1 (.t 26)⟩,
   ⟨some 28, none, .faddr 2 (.t 7)⟩,
   ⟨some 29, none, .load false 1 (.t 28)⟩,
   ⟨some 30, none, .iaddr 1 (.t 29) (.c (.int .i64 0))⟩,
   ⟨some 31, none, .load false 1 (.t 30)⟩,
   ⟨some 32, none, .call (.f f_spec_AddSat) [.t 31, .c (.int .i64 1)] false false⟩,
   ⟨some 33, none, .iaddr 1 (.t 27) (.c (.int .i64 0))⟩,
   ⟨none, none, .store 1 (.t 33) (.t 32)⟩] [(0, 2), (1, 2), (0, 3), (1, 3), (0, 4), (1, 4), (0, 5), (1, 5), (0, 6), (1, 6)]) <|
 .seq (.draw [⟨some 34, none, .faddr 3 (.t 7)⟩,
   ⟨some 35, none, .load false 1 (.t 34)⟩,
   ⟨some 36, none, .faddr 3 (.t 7)⟩,
   ⟨some 37, none, .load false 1 (.t 36)⟩,
   ⟨some 38, none, .iaddr 1 (.t 37) (.c (.int .i64 0))⟩,
   ⟨some 39, none, .load false 1 (.t 38)⟩,
   ⟨some 40, none, .mov (.t 2)⟩,
   ⟨some 41, none, .call (.f f_spec_AddSat) [.t 39, .t 40] false false⟩,
   ⟨some 42, none, .iaddr 1 (.t 35) (.c (.int .i64 0))⟩,
   ⟨none, none, .store 1 (.t 42) (.t 41)⟩] [(0, 2), (1, 2), (0, 3), (1, 3), (0, 4), (1, 4), (0, 5), (1, 5), (0, 6), (1, 6), (2, 6), (3, 6), (4, 6), (5, 6), (0, 7), (1, 7)]) <|
 .seq (.reg [⟨some 43, none, .load true 4 (.t 7)⟩,
   ⟨none, none, .store 4 (.t 6) (.t 43)⟩]) <|
 .ret⟩
theorem r_spec_RingAdd {args : List A} {res : R} {outs : List (List O)} (ok : okArgs args = true) (h : Comes PG i_spec_RingAdd args res outs) : Ret PG f_spec_RingAdd args res outs :=
  ret_of hmix Tryz.func104 (by kernel_rfl) ok h
theorem p_spec_RingAdd {args : List A} {Φ : R → List (List O) → Prop} (ok : okArgs args = true) (hl : decide (args.length ≤ i_spec_RingAdd.ntmps) = true)
    (h : den PG (finQ i_spec_RingAdd.res args Φ) [.code i_spec_RingAdd.body] .norm (st i_spec_RingAdd.ntmps (pairs 0 (entry 0 args).1) (entry 0 args).2)) : ∃ res outs, Ret PG f_spec_RingAdd args res outs ∧ Φ res outs :=
  (comesP_of hl h).elim fun res h => h.elim fun outs h => ⟨res, outs, r_spec_RingAdd ok h.1, h.2⟩

def i_spec_HoldPut : IFn := ⟨53, [.t 4, .t 5],
 .seq (.reg [⟨some 3, none, .box 3 (.t 1)⟩,
   ⟨some 4, none, .mov (.c (.z 3))⟩,
   ⟨some 5, none, .mov (.c (.bool false))⟩]) <|
 .seq (.seq (.reg [⟨some 10, none, .mov (.t 0)⟩,
    ⟨some 11, none, .call (.f f_spec_HoldsOk) [.t 10] false false⟩,
    ⟨some 12, none, .un .not (.t 11)⟩]) <|
  .ite (.t 12) (
   .seq (.reg [⟨some 4, none, .mov (.c (.z 3))⟩,
     ⟨some 5, none, .mov (.c (.bool false))⟩]) <|
   .ret) (
   .skip)) <|
 .seq (.reg [⟨some 13, none, .bslice 3 0 (.agg [.str [], .int .i64 0, .int .i64 0]) []⟩,
   ⟨some 6, none, .mov (.t 13)⟩]) <|
 .seq (.reg [⟨some 7, none, .mov (.c (.bool false))⟩]) <|
 .seq (.seq (.reg [⟨some 14, none, .mov (.t 0)⟩,
    ⟨some 15, none, .len false (.t 14)⟩,
    ⟨some 16, none, .mov (.c (.int .i64 0))⟩]) <|
  .blk 0 (
   .loop [3, 6, 7, 14, 15, 16] [] (
    .seq (.reg [⟨some 17, none, .bin .lss (.t 16) (.t 15)⟩]) <|
    .seq (.ite (.t 17) (
      .skip) (
      .exit 0)) <|
    .seq (.blk 1 (
      .seq (.reg [⟨some 18, none, .iaddr 3 (.t 14) (.t 16)⟩,
        ⟨some 19, none, .load true 3 (.t 18)⟩,
        ⟨some 9, none, .alloc [.str [], .int .i64 0, .int .i64 0]⟩,
        ⟨none, none, .store 3 (.t 9) (.t 19)⟩]) <|
      .seq (.seq (.reg [⟨some 20, none, .mov (.t 7)⟩,
         ⟨some 21, none, .un .not (.t 20)⟩,
         ⟨some 22, none, .mov (.t 21)⟩,
         ⟨some 23, some (22, true), .faddr 0 (.t 9)⟩,
         ⟨some 24, some (22, true), .load false 1 (.t 23)⟩,
         ⟨some 25, some (22, true), .faddr 0 (.t 3)⟩,
         ⟨some 26, some (22, true), .load false 1 (.t 25)⟩,
         ⟨some 27, some (22, true), .bin .geq (.t 24) (.t 26)⟩,
         ⟨some 28, none, .pick (.t 22) (.t 27) (.c (.bool false))⟩]) <|
       .ite (.t 28) (
        .seq (.reg [⟨some 29, none, .mov (.t 6)⟩,
          ⟨some 30, none, .load true 3 (.t 3)⟩,
          ⟨some 31, none, .bslice 3 1 (.agg [.str [], .int .i64 0, .int .i64 0]) [(0, .t 30)]⟩,
          ⟨some 32, none, .app 3 32 (.t 29) (.t 31)⟩,
          ⟨some 6, none, .mov (.t 32)⟩]) <|
        .reg [⟨some 7, none, .mov (.c (.bool true))⟩]) (
        .skip)) <|
      .seq (.reg [⟨some 33, none, .faddr 0 (.t 9)⟩,
        ⟨some 34, none, .load false 1 (.t 33)⟩,
        ⟨some 35, none, .faddr 0 (.t 3)⟩,
        ⟨some 36, none, .load false 1 (.t 35)⟩,
        ⟨some 37, none, .bin .neq (.t 34) (.t 36)⟩]) <|
      .ite (.t 37) (
       .reg [⟨some 38, none, .mov (.t 6)⟩,
        ⟨some 39, none, .load true 3 (.t 9)⟩,
        ⟨some 40, none, .bslice 3 1 (.agg [.str [], .int .i64 0, .int .i64 0]) [(0, .t 39)]⟩,
        ⟨some 41, none, .app 3 32 (.t 38) (.t 40)⟩,
        ⟨some 6, none, .mov (.t 41)⟩]) (
       .skip))) <|
    .reg [⟨some 42, none, .bin .add (.t 16) (.c (.int .i64 1))⟩,
     ⟨some 16, none, .mov (.t 42)⟩]))) <|
 .seq (.seq (.reg [⟨some 43, none, .mov (.t 7)⟩,
    ⟨some 44, none, .un .not (.t 43)⟩]) <|
  .ite (.t 44) (
   .reg [⟨some 45, none, .mov (.t 6)⟩,
    ⟨some 46, none, .load true 3 (.t 3)⟩,
    ⟨some 47, none, .bslice 3 1 (.agg [.str [], .int .i64 0, .int .i64 0]) [(0, .t 46)]⟩,
    ⟨some 48, none, .app 3 32 (.t 45) (.t 47)⟩,
    ⟨some 6, none, .mov (.t 48)⟩]) (
   .skip)) <|
 .seq (.seq (.reg [⟨some 49, none, .mov (.t 6)⟩,
    ⟨some 50, none, .call (.f f_spec_HoldsOk) [.t 49] false false⟩,
    ⟨some 51, none, .un .not (.t 50)⟩]) <|
  .ite (.t 51) (
   .seq (.reg [⟨some 4, none, .mov (.c (.z 3))⟩,
     ⟨some 5, none, .mov (.c (.bool false))⟩]) <|
   .ret) (
   .skip)) <|
 .seq (.reg [⟨some 52, none, .mov (.t 6)⟩,
   ⟨some 4, none, .mov (.t 52)⟩,
   ⟨some 5, none, .mov (.c (.bool true))⟩]) <|
 .ret⟩
theorem r_spec_HoldPut {args : List A} {res : R} {outs : List (List O)} (ok : okArgs args = true) (h : Comes PG i_spec_HoldPut args res outs) : Ret PG f_spec_HoldPut args res outs :=
  ret_of hmix Tryz.func105 (by kernel_rfl) ok h
theorem p_spec_HoldPut {args : List A} {Φ : R → List (List O) → Prop} (ok : okArgs args = true) (hl : decide (args.length ≤ i_spec_HoldPut.ntmps) = true)
    (h : den PG (finQ i_spec_HoldPut.res args Φ) [.code i_spec_HoldPut.body] .norm (st i_spec_HoldPut.ntmps (pairs 0 (entry 0 args).1) (entry 0 args).2)) : ∃ res outs, Ret PG f_spec_HoldPut args res outs ∧ Φ res outs :=
  (comesP_of hl h).elim fun res h => h.elim fun outs h => ⟨res, outs, r_spec_HoldPut ok h.1, h.2⟩

def i_spec_l07Hold : IFn := ⟨13, [.cell true 3 2],
 .seq (.reg [⟨some 2, none, .alloc [.str [], .int .i64 0, .int .i64 0]⟩]) <|
 .seq (.reg [⟨some 4, none, .mov (.t 0)⟩,
   ⟨some 5, none, .call (.f f_spec_l07Id) [.t 4] true false⟩,
   ⟨some 6, none, .mov (.t 0)⟩,
   ⟨some 7, none, .call (.f f_spec_l01Below) [.t 6, .c (.int .i64 60)] true false⟩,
   ⟨some 8, none, .bin .add (.c (.int .i64 1)) (.t 7)⟩,
   ⟨some 9, none, .mov (.t 0)⟩,
   ⟨some 10, none, .call (.f f_spec_l01Below) [.t 9, .c (.int .i64 30)] true false⟩,
   ⟨some 11, none, .build [.str [], .int .i64 0, .int .i64 0] [(0, 1, .t 5), (1, 1, .t 8), (2, 1, .t 10)]⟩,
   ⟨some 3, none, .alloc [.str [], .int .i64 0, .int .i64 0]⟩,
   ⟨none, none, .store 3 (.t 3) (.t 11)⟩]) <|
 .seq (.reg [⟨some 12, none, .load true 3 (.t 3)⟩,
   ⟨none, none, .store 3 (.t 2) (.t 12)⟩]) <|
 .ret⟩
theorem r_spec_l07Hold {args : List A} {res : R} {outs : List (List O)} (ok : okArgs args = true) (h : Comes PG i_spec_l07Hold args res outs) : Ret PG f_spec_l07Hold args res outs :=
  ret_of hmix Tryz.func106 (by kernel_rfl) ok h
theorem p_spec_l07Hold {args : List A} {Φ : R → List (List O) → Prop} (ok : okArgs args = true) (hl : decide (args.length ≤ i_spec_l07Hold.ntmps) = true)
    (h : den PG (finQ i_spec_l07Hold.res args Φ) [.code i_spec_l07Hold.body] .norm (st i_spec_l07Hold.ntmps (pairs 0 (entry 0 args).1) (entry 0 args).2)) : ∃ res outs, Ret PG f_spec_l07Hold args res outs ∧ Φ res outs :=
  (comesP_of hl h).elim fun res h => h.elim fun outs h => ⟨res, outs, r_spec_l07Hold ok h.1, h.2⟩

def i_spec_AddMoney : IFn := ⟨23, [.t 4, .t 5],
 .seq (.reg [⟨some 4, none, .mov (.c (.int .i64 0))⟩,
   ⟨some 5, none, .mov (.c (.bool false))⟩]) <|
 .seq (.seq (.reg [⟨some 6, none, .mov (.t 0)⟩,
    ⟨some 7, none, .call (.f f_spec_l01Money) [.t 6] false false⟩,
    ⟨some 8, none, .un .not (.t 7)⟩,
    ⟨some 9, none, .mov (.t 8)⟩,
    ⟨some 10, some (9, false), .mov (.t 1)⟩,
    ⟨some 11, some (9, false), .call (.f f_spec_l01Money) [.t 10] false false⟩,
    ⟨some 12, some (9, false), .un .not (.t 11)⟩,
    ⟨some 13, none, .pick (.t 9) (.c (.bool true)) (.t 12)⟩,
    ⟨some 14, none, .mov (.t 13)⟩,
    ⟨some 15, some (14, false), .mov (.t 0)⟩,
    ⟨some 16, some (14, false), .mov (.t 1)⟩,
    ⟨some 17, some (14, false), .bin .sub (.c (.int .i64 4611686018427387904)) (.t 16)⟩,
    ⟨some 18, some (14, false), .bin .gtr (.t 15) (.t 17)⟩,
    ⟨some 19, none, .pick (.t 14) (.c (.bool true)) (.t 18)⟩]) <|
  .ite (.t 19) (
   .seq (.reg [⟨some 4, none, .mov (.c (.int .i64 0))⟩,
     ⟨some 5, none, .mov (.c (.bool false))⟩]) <|
   .ret) (
   .skip)) <|
 .seq (.reg [⟨some 20, none, .mov (.t 0)⟩,
   ⟨some 21, none, .mov (.t 1)⟩,
   ⟨some 22, none, .bin .add (.t 20) (.t 21)⟩,
   ⟨some 4, none, .mov (.t 22)⟩,
   ⟨some 5, none, .mov (.c (.bool true))⟩]) <|
 .ret⟩
theorem r_spec_AddMoney {args : List A} {res : R} {outs : List (List O)} (ok : okArgs args = true) (h : Comes PG i_spec_AddMoney args res outs) : Ret PG f_spec_AddMoney args res outs :=
  ret_of hmix Tryz.func107 (by kernel_rfl) ok h
theorem p_spec_AddMoney {args : List A} {Φ : R → List (List O) → Prop} (ok : okArgs args = true) (hl : decide (args.length ≤ i_spec_AddMoney.ntmps) = true)
    (h : den PG (finQ i_spec_AddMoney.res args Φ) [.code i_spec_AddMoney.body] .norm (st i_spec_AddMoney.ntmps (pairs 0 (entry 0 args).1) (entry 0 args).2)) : ∃ res outs, Ret PG f_spec_AddMoney args res outs ∧ Φ res outs :=
  (comesP_of hl h).elim fun res h => h.elim fun outs h => ⟨res, outs, r_spec_AddMoney ok h.1, h.2⟩

def i_spec_l01Clamp : IFn := ⟨16, [.t 6],
 .seq (.reg [⟨some 6, none, .mov (.c (.int .i64 0))⟩]) <|
 .seq (.seq (.reg [⟨some 7, none, .mov (.t 0)⟩,
    ⟨some 8, none, .mov (.t 1)⟩,
    ⟨some 9, none, .bin .lss (.t 7) (.t 8)⟩]) <|
  .ite (.t 9) (
   .seq (.reg [⟨some 10, none, .mov (.t 1)⟩,
     ⟨some 6, none, .mov (.t 10)⟩]) <|
   .ret) (
   .skip)) <|
 .seq (.seq (.reg [⟨some 11, none, .mov (.t 0)⟩,
    ⟨some 12, none, .mov (.t 2)⟩,
    ⟨some 13, none, .bin .gtr (.t 11) (.t 12)⟩]) <|
  .ite (.t 13) (
   .seq (.reg [⟨some 14, none, .mov (.t 2)⟩,
     ⟨some 6, none, .mov (.t 14)⟩]) <|
   .ret) (
   .skip)) <|
 .seq (.reg [⟨some 15, none, .mov (.t 0)⟩,
   ⟨some 6, none, .mov (.t 15)⟩]) <|
 .ret⟩
theorem r_spec_l01Clamp {args : List A} {res : R} {outs : List (List O)} (ok : okArgs args = true) (h : Comes PG i_spec_l01Clamp args res outs) : Ret PG f_spec_l01Clamp args res outs :=
  ret_of hmix Tryz.func108 (by kernel_rfl) ok h
theorem p_spec_l01Clamp {args : List A} {Φ : R → List (List O) → Prop} (ok : okArgs args = true) (hl : decide (args.length ≤ i_spec_l01Clamp.ntmps) = true)
    (h : den PG (finQ i_spec_l01Clamp.res args Φ) [.code i_spec_l01Clamp.body] .norm (st i_spec_l01Clamp.ntmps (pairs 0 (entry 0 args).1) (entry 0 args).2)) : ∃ res outs, Ret PG f_spec_l01Clamp args res outs ∧ Φ res outs :=
  (comesP_of hl h).elim fun res h => h.elim fun outs h => ⟨res, outs, r_spec_l01Clamp ok h.1, h.2⟩

def i_spec_SlotPut : IFn := ⟨17, [.t 4, .t 5],
 .seq (.reg [⟨some 3, none, .box 3 (.t 1)⟩,
   ⟨some 4, none, .mov (.c (.z 3))⟩,
   ⟨some 5, none, .mov (.c (.bool false))⟩]) <|
 .seq (.draw [⟨some 7, none, .mov (.t 0)⟩,
   ⟨some 8, none, .call (.f f_spec_l08Copy) [.t 7] true false⟩,
   ⟨some 9, none, .load true 3 (.t 3)⟩,
   ⟨some 10, none, .bslice 3 1 (.agg [.str [], .str [], .z 1]) [(0, .t 9)]⟩,
   ⟨some 11, none, .app 3 56 (.t 8) (.t 10)⟩,
   ⟨some 12, none, .call (.f f_spec_l08Copy) [.t 11] true false⟩,
   ⟨some 6, none, .mov (.t 12)⟩] [(0, 2), (1, 2), (0, 3), (1, 3)]) <|
 .seq (.seq (.reg [⟨some 13, none, .mov (.t 6)⟩,
    ⟨some 14, none, .call (.f f_spec_SlotsOk) [.t 13] false false⟩,
    ⟨some 15, none, .un .not (.t 14)⟩]) <|
  .ite (.t 15) (
   .seq (.reg [⟨some 4, none, .mov (.c (.z 3))⟩,
     ⟨some 5, none, .mov (.c (.bool false))⟩]) <|
   .ret) (
   .skip)) <|
 .seq (.reg [⟨some 16, none, .mov (.t 6)⟩,
   ⟨some 4, none, .mov (.t 16)⟩,
   ⟨some 5, none, .mov (.c (.bool true))⟩]) <|
 .ret⟩
theorem r_spec_SlotPut {args : List A} {res : R} {outs : List (List O)} (ok : okArgs args = true) (h : Comes PG i_spec_SlotPut args res outs) : Ret PG f_spec_SlotPut args res outs :=
  ret_of hmix Tryz.func109 (by kernel_rfl) ok h
theorem p_spec_SlotPut {args : List A} {Φ : R → List (List O) → Prop} (ok : okArgs args = true) (hl : decide (args.length ≤ i_spec_SlotPut.ntmps) = true)
    (h : den PG (finQ i_spec_SlotPut.res args Φ) [.code i_spec_SlotPut.body] .norm (st i_spec_SlotPut.ntmps (pairs 0 (entry 0 args).1) (entry 0 args).2)) : ∃ res outs, Ret PG f_spec_SlotPut args res outs ∧ Φ res outs :=
  (comesP_of hl h).elim fun res h => h.elim fun outs h => ⟨res, outs, r_spec_SlotPut ok h.1, h.2⟩

def i_spec_l08Slot : IFn := ⟨16, [.cell true 3 2],
 .seq (.reg [⟨some 2, none, .alloc [.str [], .str [], .z 1]⟩]) <|
 .seq (.reg [⟨some 4, none, .mov (.t 0)⟩,
   ⟨some 5, none, .bslice 1 4 (.str []) [(0, .c (.str [48, 48, 48, 48, 48, 49])), (1, .c (.str [48, 48, 48, 48, 48, 50])), (2, .c (.str [48, 48, 48, 48, 48, 51])), (3, .c (.str [49, 50, 51, 52, 53, 54]))]⟩,
   ⟨some 6, none, .call (.f f_spec_l01Str) [.t 4, .t 5] true false⟩,
   ⟨some 7, none, .mov (.t 0)⟩,
   ⟨some 8, none, .bslice 1 3 (.str []) [(0, .c (.str [48, 49, 48, 48])), (1, .c (.str [48, 50, 50, 48])), (2, .c (.str [48, 50, 48, 48]))]⟩,
   ⟨some 9, none, .call (.f f_spec_l01Str) [.t 7, .t 8] true false⟩,
   ⟨some 10, none, .mov (.t 0)⟩,
   ⟨some 11, none, .call (.f f_spec_l01Bytes) [.t 10, .c (.int .i64 3)] true false⟩,
   ⟨some 12, none, .bslice 1 1 (.int .u8 0) [(0, .c (.int .u8 1))]⟩,
   ⟨some 13, none, .app 1 1 (.t 11) (.t 12)⟩,
   ⟨some 14, none, .build [.str [], .str [], .z 1] [(0, 1, .t 6), (1, 1, .t 9), (2, 1, .t 13)]⟩,
   ⟨some 3, none, .alloc [.str [], .str [], .z 1]⟩,
   ⟨none, none, .store 3 (.t 3) (.t 14)⟩]) <|
 .seq (.reg [⟨some 15, none, .load true 3 (.t 3)⟩,
   ⟨none, none, .store 3 (.t 2) (.t 15)⟩]) <|
 .ret⟩
theorem r_spec_l08Slot {args : List A} {res : R} {outs : List (List O)} (ok : okArgs args = true) (h : Comes PG i_spec_l08Slot args res outs) : Ret PG f_spec_l08Slot args res outs :=
  ret_of hmix Tryz.func110 (by kernel_rfl) ok h
theorem p_spec_l08Slot {args : List A} {Φ : R → List (List O) → Prop} (ok : okArgs args = true) (hl : decide (args.length ≤ i_spec_l08Slot.ntmps) = true)
    (h : den PG (finQ i_spec_l08Slot.res args Φ) [.code i_spec_l08Slot.body] .norm (st i_spec_l08Slot.ntmps (pairs 0 (entry 0 args).1) (entry 0 args).2)) : ∃ res outs, Ret PG f_spec_l08Slot args res outs ∧ Φ res outs :=
  (comesP_of hl h).elim fun res h => h.elim fun outs h => ⟨res, outs, r_spec_l08Slot ok h.1, h.2⟩

def i_spec_OpMti : IFn := ⟨10, [.t 2],
 .seq (.reg [⟨some 2, none, .mov (.c (.str []))⟩]) <|
 .seq (.seq (.reg [⟨some 3, none, .mov (.t 0)⟩,
    ⟨some 4, none, .call (.f f_spec_l11Op) [.t 3] false false⟩,
    ⟨some 5, none, .un .not (.t 4)⟩]) <|
  .ite (.t 5) (
   .seq (.reg [⟨some 2, none, .mov (.c (.str []))⟩]) <|
   .ret) (
   .skip)) <|
 .seq (.reg [⟨some 6, none, .call (.f f_spec_l11Mtis) [] false false⟩,
   ⟨some 7, none, .mov (.t 0)⟩,
   ⟨some 8, none, .iaddr 1 (.t 6) (.t 7)⟩,
   ⟨some 9, none, .load false 1 (.t 8)⟩,
   ⟨some 2, none, .mov (.t 9)⟩]) <|
 .ret⟩
theorem r_spec_OpMti {args : List A} {res : R} {outs : List (List O)} (ok : okArgs args = true) (h : Comes PG i_spec_OpMti args res outs) : Ret PG f_spec_OpMti args res outs :=
  ret_of hmix Tryz.func111 (by kernel_rfl) ok h
theorem p_spec_OpMti {args : List A} {Φ : R → List (List O) → Prop} (ok : okArgs args = true) (hl : decide (args.length ≤ i_spec_OpMti.ntmps) = true)
    (h : den PG (finQ i_spec_OpMti.res args Φ) [.code i_spec_OpMti.body] .norm (st i_spec_OpMti.ntmps (pairs 0 (entry 0 args).1) (entry 0 args).2)) : ∃ res outs, Ret PG f_spec_OpMti args res outs ∧ Φ res outs :=
  (comesP_of hl h).elim fun res h => h.elim fun outs h => ⟨res, outs, r_spec_OpMti ok h.1, h.2⟩

def i_spec_l09Id : IFn := ⟨6, [.t 2],
 .seq (.reg [⟨some 2, none, .mov (.c (.str []))⟩]) <|
 .seq (.reg [⟨some 3, none, .mov (.t 0)⟩,
   ⟨some 4, none, .bslice 1 6 (.str []) [(0, .c (.str [49, 56])), (1, .c (.str [50, 54])), (2, .c (.str [51, 52])), (3, .c (.str [52, 50])), (4, .c (.str [53, 57])), (5, .c (.str [54, 55]))]⟩,
   ⟨some 5, none, .call (.f f_spec_l01Str) [.t 3, .t 4] true false⟩,
   ⟨some 2, none, .mov (.t 5)⟩]) <|
 .ret⟩
theorem r_spec_l09Id {args : List A} {res : R} {outs : List (List O)} (ok : okArgs args = true) (h : Comes PG i_spec_l09Id args res outs) : Ret PG f_spec_l09Id args res outs :=
  ret_of hmix Tryz.func112 (by kernel_rfl) ok h
theorem p_spec_l09Id {args : List A} {Φ : R → List (List O) → Prop} (ok : okArgs args = true) (hl : decide (args.length ≤ i_spec_l09Id.ntmps) = true)
    (h : den PG (finQ i_spec_l09Id.res args Φ) [.code i_spec_l09Id.body] .norm (st i_spec_l09Id.ntmps (pairs 0 (entry 0 args).1) (entry 0 args).2)) : ∃ res outs, Ret PG f_spec_l09Id args res outs ∧ Φ res outs :=
  (comesP_of hl h).elim fun res h => h.elim fun outs h => ⟨res, outs, r_spec_l09Id ok h.1, h.2⟩

def i_spec_l11Trace : IFn := ⟨6, [.t 2],
 .seq (.reg [⟨some 2, none, .mov (.c (.str []))⟩]) <|
 .seq (.reg [⟨some 3, none, .mov (.t 0)⟩,
   ⟨some 4, none, .bslice 1 8 (.str []) [(0, .c (.str [48, 48, 48, 48, 48, 49])), (1, .c (.str [48, 48, 48, 48, 48, 50])), (2, .c (.str [48, 48, 48, 48, 48, 51])), (3, .c (.str [48, 48, 48, 48, 48, 52])), (4, .c (.str [48, 48, 48, 48, 48, 53])), (5, .c (.str [48, 48, 48, 48, 48, 54])), (6, .c (.str [48, 48, 48, 48, 48, 55])), (7, .c (.str [48, 48, 48, 48, 48, 56]))]⟩,
   ⟨some 5, none, .call (.f f_spec_l01Str) [.t 3, .t 4] true false⟩,
   ⟨some 2, none, .mov (.t 5)⟩]) <|
 .ret⟩
theorem r_spec_l11Trace {args : List A} {res : R} {outs : List (List O)} (ok : okArgs args = true) (h : Comes PG i_spec_l11Trace args res outs) : Ret PG f_spec_l11Trace args res outs :=
  ret_of hmix Tryz.func113 (by kernel_rfl) ok h
theorem p_spec_l11Trace {args : List A} {Φ : R → List (List O) → Prop} (ok : okArgs args = true) (hl : decide (args.length ≤ i_spec_l11Trace.ntmps) = true)
    (h : den PG (finQ i_spec_l11Trace.res args Φ) [.code i_spec_l11Trace.body] .norm (st i_spec_l11Trace.ntmps (pairs 0 (entry 0 args).1) (entry 0 args).2)) : ∃ res outs, Ret PG f_spec_l11Trace args res outs ∧ Φ res outs :=
  (comesP_of hl h).elim fun res h => h.elim fun outs h => ⟨res, outs, r_spec_l11Trace ok h.1, h.2⟩

def i_spec_l07Id : IFn := ⟨6, [.t 2],
 .seq (.reg [⟨some 2, none, .mov (.c (.str []))⟩]) <|
 .seq (.reg [⟨some 3, none, .mov (.t 0)⟩,
   ⟨some 4, none, .bslice 1 5 (.str []) [(0, .c (.str [97])), (1, .c (.str [98])), (2, .c (.str [99])), (3, .c (.str [104, 49])), (4, .c (.str [122, 57]))]⟩,
   ⟨some 5, none, .call (.f f_spec_l01Str) [.t 3, .t 4] true false⟩,
   ⟨some 2, none, .mov (.t 5)⟩]) <|
 .ret⟩
theorem r_spec_l07Id {args : List A} {res : R} {outs : List (List O)} (ok : okArgs args = true) (h : Comes PG i_spec_l07Id args res outs) : Ret PG f_spec_l07Id args res outs :=
  ret_of hmix Tryz.func114 (by kernel_rfl) ok h
theorem p_spec_l07Id {args : List A} {Φ : R → List (List O) → Prop} (ok : okArgs args = true) (hl : decide (args.length ≤ i_spec_l07Id.ntmps) = true)
    (h : den PG (finQ i_spec_l07Id.res args Φ) [.code i_spec_l07Id.body] .norm (st i_spec_l07Id.ntmps (pairs 0 (entry 0 args).1) (entry 0 args).2)) : ∃ res outs, Ret PG f_spec_l07Id args res outs ∧ Φ res outs :=
  (comesP_of hl h).elim fun res h => h.elim fun outs h => ⟨res, outs, r_spec_l07Id ok h.1, h.2⟩

def i_spec_l11Op : IFn := ⟨5, [.t 2],
 .seq (.reg [⟨some 2, none, .mov (.c (.bool false))⟩]) <|
 .seq (.reg [⟨some 3, none, .mov (.t 0)⟩,
   ⟨some 4, none, .call (.f f_spec_l01In) [.t 3, .c (.int .i64 1), .c (.int .i64 8)] false false⟩,
   ⟨some 2, none, .mov (.t 4)⟩]) <|
 .ret⟩
theorem r_spec_l11Op {args : List A} {res : R} {outs : List (List O)} (ok : okArgs args = true) (h : Comes PG i_spec_l11Op args res outs) : Ret PG f_spec_l11Op args res outs :=
  ret_of hmix Tryz.func115 (by kernel_rfl) ok h
theorem p_spec_l11Op {args : List A} {Φ : R → List (List O) → Prop} (ok : okArgs args = true) (hl : decide (args.length ≤ i_spec_l11Op.ntmps) = true)
    (h : den PG (finQ i_spec_l11Op.res args Φ) [.code i_spec_l11Op.body] .norm (st i_spec_l11Op.ntmps (pairs 0 (entry 0 args).1) (entry 0 args).2)) : ∃ res outs, Ret PG f_spec_l11Op args res outs ∧ Φ res outs :=
  (comesP_of hl h).elim fun res h => h.elim fun outs h => ⟨res, outs, r_spec_l11Op ok h.1, h.2⟩

def i_spec_l01In : IFn := ⟨15, [.t 6],
 .seq (.reg [⟨some 6, none, .mov (.c (.bool false))⟩]) <|
 .seq (.reg [⟨some 7, none, .mov (.t 0)⟩,
   ⟨some 8, none, .mov (.t 1)⟩,
   ⟨some 9, none, .bin .geq (.t 7) (.t 8)⟩,
   ⟨some 10, none, .mov (.t 9)⟩,
   ⟨some 11, some (10, true), .mov (.t 0)⟩,
   ⟨some 12, some (10, true), .mov (.t 2)⟩,
   ⟨some 13, some (10, true), .bin .leq (.t 11) (.t 12)⟩,
   ⟨some 14, none, .pick (.t 10) (.t 13) (.c (.bool false))⟩,
   ⟨some 6, none, .mov (.t 14)⟩]) <|
 .ret⟩
theorem r_spec_l01In {args : List A} {res : R} {outs : List (List O)} (ok : okArgs args = true) (h : Comes PG i_spec_l01In args res outs) : Ret PG f_spec_l01In args res outs :=
  ret_of hmix Tryz.func116 (by kernel_rfl) ok h
theorem p_spec_l01In {args : List A} {Φ : R → List (List O) → Prop} (ok : okArgs args = true) (hl : decide (args.length ≤ i_spec_l01In.ntmps) = true)
    (h : den PG (finQ i_spec_l01In.res args Φ) [.code i_spec_l01In.body] .norm (st i_spec_l01In.ntmps (pairs 0 (entry 0 args).1) (entry 0 args).2)) : ∃ res outs, Ret PG f_spec_l01In args res outs ∧ Φ res outs :=
  (comesP_of hl h).elim fun res h => h.elim fun outs h => ⟨res, outs, r_spec_l01In ok h.1, h.2⟩

def i_impl_LuhnOk : IFn := ⟨25, [.t 2],
 .seq (.reg [⟨some 2, none, .mov (.c (.bool false))⟩]) <|
 .seq (.reg [⟨some 4, none, .mov (.t 0)⟩,
   ⟨some 5, none, .len true (.t 4)⟩,
   ⟨some 6, none, .bin .sub (.t 5) (.c (.int .i64 1))⟩,
   ⟨some 3, none, .mov (.t 6)⟩]) <|
 .seq (.draw [⟨some 7, none, .mov (.t 3)⟩,
   ⟨some 8, none, .bin .geq (.t 7) (.c (.int .i64 1))⟩,
   ⟨some 9, none, .mov (.t 8)⟩,
   ⟨some 10, some (9, true), .mov (.t 0)⟩,
   ⟨some 11, some (9, true), .call (.f f_impl_Digits) [.t 10] false false⟩,
   ⟨some 12, none, .pick (.t 9) (.t 11) (.c (.bool false))⟩,
   ⟨some 13, none, .mov (.t 12)⟩,
   ⟨some 14, some (13, true), .mov (.t 0)⟩,
   ⟨some 15, some (13, true), .mov (.t 3)⟩,
   ⟨some 16, some (13, true), .sstr (.t 14) none (some (.t 15))⟩,
   ⟨some 17, some (13, true), .call (.f f_impl_Luhn) [.t 16] false false⟩,
   ⟨some 18, some (13, true), .mov (.t 0)⟩,
   ⟨some 19, some (13, true), .mov (.t 3)⟩,
   ⟨some 20, some (13, true), .index (.t 18) (.t 19)⟩,
   ⟨some 21, some (13, true), .bin .sub (.t 20) (.c (.int .u8 48))⟩,
   ⟨some 22, some (13, true), .conv (.int .i64) (.t 21)⟩,
   ⟨some 23, some (13, true), .bin .eql (.t 17) (.t 22)⟩,
   ⟨some 24, none, .pick (.t 13) (.t 23) (.c (.bool false))⟩,
   ⟨some 2, none, .mov (.t 24)⟩] [(7, 8), (7, 11), (8, 11), (9, 11), (10, 11), (7, 12), (8, 12), (9, 12), (10, 12), (11, 12), (7, 13), (8, 13), (9, 13), (10, 13), (7, 14), (8, 14), (9, 14), (10, 14), (7, 15), (8, 15), (9, 15), (10, 15)]) <|
 .ret⟩
theorem r_impl_LuhnOk {args : List A} {res : R} {outs : List (List O)} (ok : okArgs args = true) (h : Comes PG i_impl_LuhnOk args res outs) : Ret PG f_impl_LuhnOk args res outs :=
  ret_of hmix Tryz.func117 (by kernel_rfl) ok h
theorem p_impl_LuhnOk {args : List A} {Φ : R → List (List O) → Prop} (ok : okArgs args = true) (hl : decide (args.length ≤ i_impl_LuhnOk.ntmps) = true)
    (h : den PG (finQ i_impl_LuhnOk.res args Φ) [.code i_impl_LuhnOk.body] .norm (st i_impl_LuhnOk.ntmps (pairs 0 (entry 0 args).1) (entry 0 args).2)) : ∃ res outs, Ret PG f_impl_LuhnOk args res outs ∧ Φ res outs :=
  (comesP_of hl h).elim fun res h => h.elim fun outs h => ⟨res, outs, r_impl_LuhnOk ok h.1, h.2⟩

end
end Go.AW
open Go.Proofs
namespace Go.AW
set_option maxRecDepth 10000
noncomputable section
def i_impl_rowOf : IFn := ⟨18, [.cell true 3 2],
 .seq (.reg [⟨some 2, none, .alloc [.int .i64 0, .int .i64 0, .int .i64 0]⟩]) <|
 .seq (.seq (.reg [⟨some 5, none, .call (.f f_impl_fieldRows) [] false false⟩,
    ⟨some 6, none, .len false (.t 5)⟩,
    ⟨some 7, none, .mov (.c (.int .i64 0))⟩]) <|
  .blk 0 (
   .loop [0, 2, 5, 6, 7] [] (
    .seq (.reg [⟨some 8, none, .bin .lss (.t 7) (.t 6)⟩]) <|
    .seq (.ite (.t 8) (
      .skip) (
      .exit 0)) <|
    .seq (.blk 1 (
      .seq (.reg [⟨some 9, none, .iaddr 3 (.t 5) (.t 7)⟩,
        ⟨some 10, none, .load true 3 (.t 9)⟩,
        ⟨some 4, none, .alloc [.int .i64 0, .int .i64 0, .int .i64 0]⟩,
        ⟨none, none, .store 3 (.t 4) (.t 10)⟩]) <|
      .seq (.reg [⟨some 11, none, .faddr 0 (.t 4)⟩,
        ⟨some 12, none, .load false 1 (.t 11)⟩,
        ⟨some 13, none, .mov (.t 0)⟩,
        ⟨some 14, none, .bin .eql (.t 12) (.t 13)⟩]) <|
      .ite (.t 14) (
       .seq (.reg [⟨some 15, none, .load true 3 (.t 4)⟩,
         ⟨none, none, .store 3 (.t 2) (.t 15)⟩]) <|
       .ret) (
       .skip))) <|
    .reg [⟨some 16, none, .bin .add (.t 7) (.c (.int .i64 1))⟩,
     ⟨some 7, none, .mov (.t 16)⟩]))) <|
 .seq (.reg [⟨some 17, none, .build [.int .i64 0, .int .i64 0, .int .i64 0] []⟩,
   ⟨none, none, .store 3 (.t 2) (.t 17)⟩]) <|
 .ret⟩
theorem r_impl_rowOf {args : List A} {res : R} {outs : List (List O)} (ok : okArgs args = true) (h : Comes PG i_impl_rowOf args res outs) : Ret PG f_impl_rowOf args res outs :=
  ret_of hmix Tryz.func125 (by kernel_rfl) ok h
theorem p_impl_rowOf {args : List A} {Φ : R → List (List O) → Prop} (ok : okArgs args = true) (hl : decide (args.length ≤ i_impl_rowOf.ntmps) = true)
    (h : den PG (finQ i_impl_rowOf.res args Φ) [.code i_impl_rowOf.body] .norm (st i_impl_rowOf.ntmps (pairs 0 (entry 0 args).1) (entry 0 args).2)) : ∃ res outs, Ret PG f_impl_rowOf args res outs ∧ Φ res outs :=
  (comesP_of hl h).elim fun res h => h.elim fun outs h => ⟨res, outs, r_impl_rowOf ok h.1, h.2⟩

def i_impl_Printable : IFn := ⟨20, [.t 2],
 .seq (.reg [⟨some 2, none, .mov (.c (.bool false))⟩]) <|
 .seq (.seq (.reg [⟨some 4, none, .mov (.t 0)⟩,
    ⟨some 5, none, .len true (.t 4)⟩,
    ⟨some 6, none, .mov (.c (.int .i64 0))⟩]) <|
  .blk 0 (
   .loop [0, 5, 6] [] (
    .seq (.reg [⟨some 7, none, .bin .lss (.t 6) (.t 5)⟩]) <|
    .seq (.ite (.t 7) (
      .skip) (
      .exit 0)) <|
    .seq (.blk 1 (
      .seq (.reg [⟨some 8, none, .mov (.t 6)⟩,
        ⟨some 3, none, .mov (.t 8)⟩]) <|
      .seq (.reg [⟨some 9, none, .mov (.t 0)⟩,
        ⟨some 10, none, .mov (.t 3)⟩,
        ⟨some 11, none, .index (.t 9) (.t 10)⟩,
        ⟨some 12, none, .bin .lss (.t 11) (.c (.int .u8 32))⟩,
        ⟨some 13, none, .mov (.t 12)⟩,
        ⟨some 14, some (13, false), .mov (.t 0)⟩,
        ⟨some 15, some (13, false), .mov (.t 3)⟩,
        ⟨some 16, some (13, false), .index (.t 14) (.t 15)⟩,
        ⟨some 17, some (13, false), .bin .gtr (.t 16) (.c (.int .u8 126))⟩,
        ⟨some 18, none, .pick (.t 13) (.c (.bool true)) (.t 17)⟩]) <|
      .ite (.t 18) (
       .seq (.reg [⟨some 2, none, .mov (.c (.bool false))⟩]) <|
       .ret) (
       .skip))) <|
    .reg [⟨some 19, none, .bin .add (.t 6) (.c (.int .i64 1))⟩,
     ⟨some 6, none, .mov (.t 19)⟩]))) <|
 .seq (.reg [⟨some 2, none, .mov (.c (.bool true))⟩]) <|
 .ret⟩
theorem r_impl_Printable {args : List A} {res : R} {outs : List (List O)} (ok : okArgs args = true) (h : Comes PG i_impl_Printable args res outs) : Ret PG f_impl_Printable args res outs :=
  ret_of hmix Tryz.func126 (by kernel_rfl) ok h
theorem p_impl_Printable {args : List A} {Φ : R → List (List O) → Prop} (ok : okArgs args = true) (hl : decide (args.length ≤ i_impl_Printable.ntmps) = true)
    (h : den PG (finQ i_impl_Printable.res args Φ) [.code i_impl_Printable.body] .norm (st i_impl_Printable.ntmps (pairs 0 (entry 0 args).1) (entry 0 args).2)) : ∃ res outs, Ret PG f_impl_Printable args res outs ∧ Φ res outs :=
  (comesP_of hl h).elim fun res h => h.elim fun outs h => ⟨res, outs, r_impl_Printable ok h.1, h.2⟩

def i_slices_Index_int_int : IFn := ⟨19, [.t 4],
 .seq (.reg [⟨some 4, none, .mov (.c (.int .i64 0))⟩]) <|
 .seq (.seq (.reg [⟨some 6, none, .mov (.t 0)⟩,
    ⟨some 7, none, .len false (.t 6)⟩,
    ⟨some 8, none, .mov (.c (.int .i64 0))⟩]) <|
  .blk 0 (
   .loop [0, 1, 7, 8] [] (
    .seq (.reg [⟨some 9, none, .bin .lss (.t 8) (.t 7)⟩]) <|
    .seq (.ite (.t 9) (
      .skip) (
      .exit 0)) <|
    .seq (.blk 1 (
      .seq (.reg [⟨some 10, none, .mov (.t 8)⟩,
        ⟨some 5, none, .mov (.t 10)⟩]) <|
      .seq (.reg [⟨some 11, none, .mov (.t 1)⟩,
        ⟨some 12, none, .mov (.t 0)⟩,
        ⟨some 13, none, .mov (.t 5)⟩,
        ⟨some 14, none, .iaddr 1 (.t 12) (.t 13)⟩,
        ⟨some 15, none, .load false 1 (.t 14)⟩,
        ⟨some 16, none, .bin .eql (.t 11) (.t 15)⟩]) <|
      .ite (.t 16) (
       .seq (.reg [⟨some 17, none, .mov (.t 5)⟩,
         ⟨some 4, none, .mov (.t 17)⟩]) <|
       .ret) (
       .skip))) <|
    .reg [⟨some 18, none, .bin .add (.t 8) (.c (.int .i64 1))⟩,
     ⟨some 8, none, .mov (.t 18)⟩]))) <|
 .seq (.reg [⟨some 4, none, .mov (.c (.int .i64 (-1)))⟩]) <|
 .ret⟩
theorem r_slices_Index_int_int {args : List A} {res : R} {outs : List (List O)} (ok : okArgs args = true) (h : Comes PG i_slices_Index_int_int args res outs) : Ret PG f_slices_Index_int_int args res outs :=
  ret_of hmix Tryz.func127 (by kernel_rfl) ok h
theorem p_slices_Index_int_int {args : List A} {Φ : R → List (List O) → Prop} (ok : okArgs args = true) (hl : decide (args.length ≤ i_slices_Index_int_int.ntmps) = true)
    (h : den PG (finQ i_slices_Index_int_int.res args Φ) [.code i_slices_Index_int_int.body] .norm (st i_slices_Index_int_int.ntmps (pairs 0 (entry 0 args).1) (entry 0 args).2)) : ∃ res outs, Ret PG f_slices_Index_int_int args res outs ∧ Φ res outs :=
  (comesP_of hl h).elim fun res h => h.elim fun outs h => ⟨res, outs, r_slices_Index_int_int ok h.1, h.2⟩

def i_impl_GetLen : IFn := ⟨34, [.t 6, .t 7, .t 8],
 .seq (.reg [⟨some 6, none, .mov (.c (.int .i64 0))⟩,
   ⟨some 7, none, .mov (.c (.int .i64 0))⟩,
   ⟨some 8, none, .mov (.c (.bool false))⟩]) <|
 .seq (.seq (.reg [⟨some 14, none, .mov (.t 2)⟩,
    ⟨some 15, none, .call (.f f_impl_within) [.t 14, .c (.int .i64 2), .c (.int .i64 3)] false false⟩,
    ⟨some 16, none, .un .not (.t 15)⟩]) <|
  .ite (.t 16) (
   .seq (.reg [⟨some 6, none, .mov (.c (.int .i64 0))⟩,
     ⟨some 7, none, .mov (.c (.int .i64 0))⟩,
     ⟨some 8, none, .mov (.c (.bool false))⟩]) <|
   .ret) (
   .skip)) <|
 .seq (.reg [⟨some 18, none, .mov (.t 0)⟩,
   ⟨some 19, none, .mov (.t 1)⟩,
   ⟨some 20, none, .mov (.t 2)⟩,
   ⟨some 21, none, .call (.f f_impl_GetBcd) [.t 18, .t 19, .t 20] false false⟩,
   ⟨some 17, none, .mov (.t 21)⟩,
   ⟨some 22, none, .extr (.t 17) 0⟩,
   ⟨some 23, none, .extr (.t 17) 1⟩,
   ⟨some 24, none, .extr (.t 17) 2⟩,
   ⟨some 9, none, .mov (.t 22)⟩,
   ⟨some 10, none, .mov (.t 23)⟩,
   ⟨some 11, none, .mov (.t 24)⟩]) <|
 .seq (.seq (.reg [⟨some 25, none, .mov (.t 11)⟩,
    ⟨some 26, none, .un .not (.t 25)⟩]) <|
  .ite (.t 26) (
   .seq (.reg [⟨some 6, none, .mov (.c (.int .i64 0))⟩,
     ⟨some 7, none, .mov (.c (.int .i64 0))⟩,
     ⟨some 8, none, .mov (.c (.bool false))⟩]) <|
   .ret) (
   .skip)) <|
 .seq (.reg [⟨some 28, none, .mov (.t 9)⟩,
   ⟨some 29, none, .call (.f f_impl_Narrow) [.t 28] false false⟩,
   ⟨some 27, none, .mov (.t 29)⟩,
   ⟨some 30, none, .extr (.t 27) 0⟩,
   ⟨some 31, none, .extr (.t 27) 1⟩,
   ⟨some 12, none, .mov (.t 30)⟩,
   ⟨some 13, none, .mov (.t 31)⟩]) <|
 .seq (.reg [⟨some 32, none, .mov (.t 12)⟩,
   ⟨some 33, none, .mov (.t 10)⟩,
   ⟨some 6, none, .mov (.t 32)⟩,
   ⟨some 7, none, .mov (.t 33)⟩,
   ⟨some 8, none, .mov (.c (.bool true))⟩]) <|
 .ret⟩
theorem r_impl_GetLen {args : List A} {res : R} {outs : List (List O)} (ok : okArgs args = true) (h : Comes PG i_impl_GetLen args res outs) : Ret PG f_impl_GetLen args res outs :=
  ret_of hmix Tryz.func128 (by kernel_rfl) ok h
theorem p_impl_GetLen {args : List A} {Φ : R → List (List O) → Prop} (ok : okArgs args = true) (hl : decide (args.length ≤ i_impl_GetLen.ntmps) = true)
    (h : den PG (finQ i_impl_GetLen.res args Φ) [.code i_impl_GetLen.body] .norm (st i_impl_GetLen.ntmps (pairs 0 (entry 0 args).1) (entry 0 args).2)) : ∃ res outs, Ret PG f_impl_GetLen args res outs ∧ Φ res outs :=
  (comesP_of hl h).elim fun res h => h.elim fun outs h => ⟨res, outs, r_impl_GetLen ok h.1, h.2⟩

def i_impl_isMoney : IFn := ⟨5, [.t 2],
 .seq (.reg [⟨some 2, none, .mov (.c (.bool false))⟩]) <|
 .seq (.reg [⟨some 3, none, .mov (.t 0)⟩,
   ⟨some 4, none, .call (.f f_impl_within) [.t 3, .c (.int .i64 0), .c (.int .i64 4611686018427387904)] false false⟩,
   ⟨some 2, none, .mov (.t 4)⟩]) <|
 .ret⟩
theorem r_impl_isMoney {args : List A} {res : R} {outs : List (List O)} (ok : okArgs args = true) (h : Comes PG i_impl_isMoney args res outs) : Ret PG f_impl_isMoney args res outs :=
  ret_of hmix Tryz.func129 (by kernel_rfl) ok h
theorem p_impl_isMoney {args : List A} {Φ : R → List (List O) → Prop} (ok : okArgs args = true) (hl : decide (args.length ≤ i_impl_isMoney.ntmps) = true)
    (h : den PG (finQ i_impl_isMoney.res args Φ) [.code i_impl_isMoney.body] .norm (st i_impl_isMoney.ntmps (pairs 0 (entry 0 args).1) (entry 0 args).2)) : ∃ res outs, Ret PG f_impl_isMoney args res outs ∧ Φ res outs :=
  (comesP_of hl h).elim fun res h => h.elim fun outs h => ⟨res, outs, r_impl_isMoney ok h.1, h.2⟩

def i_impl_HoldsOk : IFn := ⟨34, [.t 2],
 .seq (.reg [⟨some 2, none, .mov (.c (.bool false))⟩]) <|
 .seq (.seq (.reg [⟨some 5, none, .mov (.t 0)⟩,
    ⟨some 6, none, .len false (.t 5)⟩,
    ⟨some 7, none, .mov (.c (.int .i64 0))⟩]) <|
  .blk 0 (
   .loop [0, 5, 6, 7] [] (
    .seq (.reg [⟨some 8, none, .bin .lss (.t 7) (.t 6)⟩]) <|
    .seq (.ite (.t 8) (
      .skip) (
      .exit 0)) <|
    .seq (.blk 1 (
      .seq (.reg [⟨some 9, none, .mov (.t 7)⟩,
        ⟨some 10, none, .iaddr 3 (.t 5) (.t 7)⟩,
        ⟨some 11, none, .load true 3 (.t 10)⟩,
        ⟨some 4, none, .alloc [.str [], .int .i64 0, .int .i64 0]⟩,
        ⟨some 3, none, .mov (.t 9)⟩,
        ⟨none, none, .store 3 (.t 4) (.t 11)⟩]) <|
      .seq (.draw [⟨some 12, none, .load true 3 (.t 4)⟩,
        ⟨some 13, none, .call (.f f_impl_HoldOk) [.t 12] false false⟩,
        ⟨some 14, none, .un .not (.t 13)⟩,
        ⟨some 15, none, .mov (.t 14)⟩,
        ⟨some 16, some (15, false), .mov (.t 3)⟩,
        ⟨some 17, some (15, false), .bin .gtr (.t 16) (.c (.int .i64 0))⟩,
        ⟨some 18, some (15, false), .mov (.t 17)⟩,
        ⟨some 19, some (18, true), .faddr 0 (.t 4)⟩,
        ⟨some 20, some (18, true), .load false 1 (.t 19)⟩,
        ⟨some 21, some (18, true), .mov (.t 0)⟩,
        ⟨some 22, some (18, true), .mov (.t 3)⟩,
        ⟨some 23, some (18, true), .bin .sub (.t 22) (.c (.int .i64 1))⟩,
        ⟨some 24, some (18, true), .iaddr 3 (.t 21) (.t 23)⟩,
        ⟨some 25, some (18, true), .faddr 0 (.t 24)⟩,
        ⟨some 26, some (18, true), .load false 1 (.t 25)⟩,
        ⟨some 27, some (18, true), .bin .leq (.t 20) (.t 26)⟩,
        ⟨some 28, some (15, false), .pick (.t 18) (.t 27) (.c (.bool false))⟩,
        ⟨some 29, none, .pick (.t 15) (.c (.bool true)) (.t 28)⟩] [(7, 9), (8, 9), (7, 10), (8, 10), (9, 10), (7, 11), (8, 11), (9, 11), (7, 12), (8, 12), (7, 13), (8, 13), (7, 14), (8, 14)]) <|
      .ite (.t 29) (
       .seq (.reg [⟨some 2, none, .mov (.c (.bool false))⟩]) <|
       .ret) (
       .skip))) <|
    .reg [⟨some 30, none, .bin .add (.t 7) (.c (.int .i64 1))⟩,
     ⟨some 7, none, .mov (.t 30)⟩]))) <|
 .seq (.reg [⟨some 31, none, .mov (.t 0)⟩,
   ⟨some 32, none, .len false (.t 31)⟩,
   ⟨some 33, none, .bin .leq (.t 32) (.c (.int .i64 4))⟩,
   ⟨some 2, none, .mov (.t 33)⟩]) <|
 .ret⟩
theorem r_impl_HoldsOk {args : List A} {res : R} {outs : List (List O)} (ok : okArgs args = true) (h : Comes PG i_impl_HoldsOk args res outs) : Ret PG f_impl_HoldsOk args res outs :=
  ret_of hmix Tryz.func130 (by kernel_rfl) ok h
theorem p_impl_HoldsOk {args : List A} {Φ : R → List (List O) → Prop} (ok : okArgs args = true) (hl : decide (args.length ≤ i_impl_HoldsOk.ntmps) = true)
    (h : den PG (finQ i_impl_HoldsOk.res args Φ) [.code i_impl_HoldsOk.body] .norm (st i_impl_HoldsOk.ntmps (pairs 0 (entry 0 args).1) (entry 0 args).2)) : ∃ res outs, Ret PG f_impl_HoldsOk args res outs ∧ Φ res outs :=
  (comesP_of hl h).elim fun res h => h.elim fun outs h => ⟨res, outs, r_impl_HoldsOk ok h.1, h.2⟩

def i_impl_RingOk : IFn := ⟨43, [.t 2],
 .seq (.reg [⟨some 1, none, .box 4 (.t 0)⟩,
   ⟨some 2, none, .mov (.c (.bool false))⟩]) <|
 .seq (.reg [⟨some 6, none, .faddr 2 (.t 1)⟩,
   ⟨some 7, none, .load false 1 (.t 6)⟩,
   ⟨some 8, none, .len false (.t 7)⟩,
   ⟨some 3, none, .mov (.t 8)⟩]) <|
 .seq (.seq (.reg [⟨some 9, none, .faddr 2 (.t 1)⟩,
    ⟨some 10, none, .load false 1 (.t 9)⟩,
    ⟨some 11, none, .faddr 3 (.t 1)⟩,
    ⟨some 12, none, .load false 1 (.t 11)⟩,
    ⟨some 13, none, .bslice 1 2 (.z 1) [(0, .t 10), (1, .t 12)]⟩,
    ⟨some 14, none, .call (.f f_slices_Concat_int_int) [.t 13] false false⟩,
    ⟨some 15, none, .len false (.t 14)⟩,
    ⟨some 16, none, .mov (.c (.int .i64 0))⟩]) <|
  .blk 0 (
   .loop [1, 3, 14, 15, 16] [] (
    .seq (.reg [⟨some 17, none, .bin .lss (.t 16) (.t 15)⟩]) <|
    .seq (.ite (.t 17) (
      .skip) (
      .exit 0)) <|
    .seq (.blk 1 (
      .seq (.reg [⟨some 18, none, .iaddr 1 (.t 14) (.t 16)⟩,
        ⟨some 19, none, .load false 1 (.t 18)⟩,
        ⟨some 5, none, .mov (.t 19)⟩]) <|
      .seq (.reg [⟨some 20, none, .mov (.t 5)⟩,
        ⟨some 21, none, .call (.f f_impl_isMoney) [.t 20] false false⟩,
        ⟨some 22, none, .un .not (.t 21)⟩]) <|
      .ite (.t 22) (
       .seq (.reg [⟨some 2, none, .mov (.c (.bool false))⟩]) <|
       .ret) (
       .skip))) <|
    .reg [⟨some 23, none, .bin .add (.t 16) (.c (.int .i64 1))⟩,
     ⟨some 16, none, .mov (.t 23)⟩]))) <|
 .seq (.reg [⟨some 24, none, .faddr 0 (.t 1)⟩,
   ⟨some 25, none, .load false 1 (.t 24)⟩,
   ⟨some 26, none, .call (.f f_impl_within) [.t 25, .c (.int .i64 1), .c (.int .i64 1000)] false false⟩,
   ⟨some 27, none, .mov (.t 26)⟩,
   ⟨some 28, some (27, true), .mov (.t 3)⟩,
   ⟨some 29, some (27, true), .call (.f f_impl_within) [.t 28, .c (.int .i64 1), .c (.int .i64 8)] false false⟩,
   ⟨some 30, none, .pick (.t 27) (.t 29) (.c (.bool false))⟩,
   ⟨some 31, none, .mov (.t 30)⟩,
   ⟨some 32, some (31, true), .faddr 3 (.t 1)⟩,
   ⟨some 33, some (31, true), .load false 1 (.t 32)⟩,
   ⟨some 34, some (31, true), .len false (.t 33)⟩,
   ⟨some 35, some (31, true), .mov (.t 3)⟩,
   ⟨some 36, some (31, true), .bin .eql (.t 34) (.t 35)⟩,
   ⟨some 37, none, .pick (.t 31) (.t 36) (.c (.bool false))⟩,
   ⟨some 38, none, .mov (.t 37)⟩,
   ⟨some 39, some (38, true), .faddr 1 (.t 1)⟩,
   ⟨some 40, some (38, true), .load false 1 (.t 39)⟩,
   ⟨some 41, some (38, true), .call (.f f_impl_isTime) [.t 40] false false⟩,
   ⟨some 42, none, .pick (.t 38) (.t 41) (.c (.bool false))⟩,
   ⟨some 2, none, .mov (.t 42)⟩]) <|
 .ret⟩
theorem r_impl_RingOk {args : List A} {res : R} {outs : List (List O)} (ok : okArgs args = true) (h : Comes PG i_impl_RingOk args res outs) : Ret PG f_impl_RingOk args res outs :=
  ret_of hmix Tryz.func131 (by kernel_rfl) ok h
theorem p_impl_RingOk {args : List A} {Φ : R → List (List O) → Prop} (ok : okArgs args = true) (hl : decide (args.length ≤ i_impl_RingOk.ntmps) = true)
    (h : den PG (finQ i_impl_RingOk.res args Φ) [.code i_impl_RingOk.body] .norm (st i_impl_RingOk.ntmps (pairs 0 (entry 0 args).1) (entry 0 args).2)) : ∃ res outs, Ret PG f_impl_RingOk args res outs ∧ Φ res outs :=
  (comesP_of hl h).elim fun res h => h.elim fun outs h => ⟨res, outs, r_impl_RingOk ok h.1, h.2⟩

def i_impl_AddSat : IFn := ⟨18, [.t 4],
 .seq (.reg [⟨some 4, none, .mov (.c (.int .i64 0))⟩]) <|
 .seq (.reg [⟨some 5, none, .mov (.t 0)⟩,
   ⟨some 6, none, .min (.t 5) (.c (.int .i64 4611686018427387904))⟩,
   ⟨some 7, none, .max (.c (.int .i64 0)) (.t 6)⟩,
   ⟨some 8, none, .mov (.t 1)⟩,
   ⟨some 9, none, .min (.t 8) (.c (.int .i64 4611686018427387904))⟩,
   ⟨some 10, none, .max (.c (.int .i64 0)) (.t 9)⟩,
   ⟨some 0, none, .mov (.t 7)⟩,
   ⟨some 1, none, .mov (.t 10)⟩]) <|
 .seq (.seq (.reg [⟨some 11, none, .mov (.t 0)⟩,
    ⟨some 12, none, .mov (.t 1)⟩,
    ⟨some 13, none, .bin .sub (.c (.int .i64 4611686018427387904)) (.t 12)⟩,
    ⟨some 14, none, .bin .gtr (.t 11) (.t 13)⟩]) <|
  .ite (.t 14) (
   .seq (.reg [⟨some 4, none, .mov (.c (.int .i64 4611686018427387904))⟩]) <|
   .ret) (
   .skip)) <|
 .seq (.reg [⟨some 15, none, .mov (.t 0)⟩,
   ⟨some 16, none, .mov (.t 1)⟩,
   ⟨some 17, none, .bin .add (.t 15) (.t 16)⟩,
   ⟨some 4, none, .mov (.t 17)⟩]) <|
 .ret⟩
theorem r_impl_AddSat {args : List A} {res : R} {outs : List (List O)} (ok : okArgs args = true) (h : Comes PG i_impl_AddSat args res outs) : Ret PG f_impl_AddSat args res outs :=
  ret_of hmix Tryz.func132 (by kernel_rfl) ok h
theorem p_impl_AddSat {args : List A} {Φ : R → List (List O) → Prop} (ok : okArgs args = true) (hl : decide (args.length ≤ i_impl_AddSat.ntmps) = true)
    (h : den PG (finQ i_impl_AddSat.res args Φ) [.code i_impl_AddSat.body] .norm (st i_impl_AddSat.ntmps (pairs 0 (entry 0 args).1) (entry 0 args).2)) : ∃ res outs, Ret PG f_impl_AddSat args res outs ∧ Φ res outs :=
  (comesP_of hl h).elim fun res h => h.elim fun outs h => ⟨res, outs, r_impl_AddSat ok h.1, h.2⟩

def i_impl_Stored : IFn := ⟨18, [.t 2],
 .seq (.reg [⟨some 2, none, .mov (.c (.int .i64 0))⟩]) <|
 .seq (.reg [⟨some 3, none, .mov (.c (.int .i64 0))⟩]) <|
 .seq (.seq (.reg [⟨some 6, none, .mov (.t 0)⟩,
    ⟨some 7, none, .len false (.t 6)⟩,
    ⟨some 8, none, .mov (.c (.int .i64 0))⟩]) <|
  .blk 0 (
   .loop [3, 6, 7, 8] [] (
    .seq (.reg [⟨some 9, none, .bin .lss (.t 8) (.t 7)⟩]) <|
    .seq (.ite (.t 9) (
      .skip) (
      .exit 0)) <|
    .seq (.blk 1 (
      .seq (.reg [⟨some 10, none, .iaddr 3 (.t 6) (.t 8)⟩,
        ⟨some 11, none, .load true 3 (.t 10)⟩,
        ⟨some 5, none, .alloc [.str [], .int .i64 0, .int .i64 0]⟩,
        ⟨none, none, .store 3 (.t 5) (.t 11)⟩]) <|
      .reg [⟨some 12, none, .mov (.t 3)⟩,
       ⟨some 13, none, .faddr 1 (.t 5)⟩,
       ⟨some 14, none, .load false 1 (.t 13)⟩,
       ⟨some 15, none, .call (.f f_impl_AddSat) [.t 12, .t 14] false false⟩,
       ⟨some 3, none, .mov (.t 15)⟩])) <|
    .reg [⟨some 16, none, .bin .add (.t 8) (.c (.int .i64 1))⟩,
     ⟨some 8, none, .mov (.t 16)⟩]))) <|
 .seq (.reg [⟨some 17, none, .mov (.t 3)⟩,
   ⟨some 2, none, .mov (.t 17)⟩]) <|
 .ret⟩
theorem r_impl_Stored {args : List A} {res : R} {outs : List (List O)} (ok : okArgs args = true) (h : Comes PG i_impl_Stored args res outs) : Ret PG f_impl_Stored args res outs :=
  ret_of hmix Tryz.func133 (by kernel_rfl) ok h
theorem p_impl_Stored {args : List A} {Φ : R → List (List O) → Prop} (ok : okArgs args = true) (hl : decide (args.length ≤ i_impl_Stored.ntmps) = true)
    (h : den PG (finQ i_impl_Stored.res args Φ) [.code i_impl_Stored.body] .norm (st i_impl_Stored.ntmps (pairs 0 (entry 0 args).1) (entry 0 args).2)) : ∃ res outs, Ret PG f_impl_Stored args res outs ∧ Φ res outs :=
  (comesP_of hl h).elim fun res h => h.elim fun outs h => ⟨res, outs, r_impl_Stored ok h.1, h.2⟩

def i_slices_Clone_impl_Hold_impl_Hold : IFn := ⟨8, [.t 2],
 .seq (.reg [⟨some 2, none, .mov (.c (.z 3))⟩]) <|
 .seq (.seq (.reg [⟨some 3, none, .mov (.t 0)⟩,
    ⟨some 4, none, .isnil 2 false (.t 3)⟩]) <|
  .ite (.t 4) (
   .seq (.reg [⟨some 2, none, .mov (.c (.z 3))⟩]) <|
   .ret) (
   .skip)) <|
 .seq (.reg [⟨some 5, none, .bslice 3 0 (.agg [.str [], .int .i64 0, .int .i64 0]) []⟩,
   ⟨some 6, none, .mov (.t 0)⟩,
   ⟨some 7, none, .app 3 32 (.t 5) (.t 6)⟩,
   ⟨some 2, none, .mov (.t 7)⟩]) <|
 .ret⟩
theorem r_slices_Clone_impl_Hold_impl_Hold {args : List A} {res : R} {outs : List (List O)} (ok : okArgs args = true) (h : Comes PG i_slices_Clone_impl_Hold_impl_Hold args res outs) : Ret PG f_slices_Clone_impl_Hold_impl_Hold args res outs :=
  ret_of hmix Tryz.func134 (by kernel_rfl) ok h
theorem p_slices_Clone_impl_Hold_impl_Hold {args : List A} {Φ : R → List (List O) → Prop} (ok : okArgs args = true) (hl : decide (args.length ≤ i_slices_Clone_impl_Hold_impl_Hold.ntmps) = true)
    (h : den PG (finQ i_slices_Clone_impl_Hold_impl_Hold.res args Φ) [.code i_slices_Clone_impl_Hold_impl_Hold.body] .norm (st i_slices_Clone_impl_Hold_impl_Hold.ntmps (pairs 0 (entry 0 args).1) (entry 0 args).2)) : ∃ res outs, Ret PG f_slices_Clone_impl_Hold_impl_Hold args res outs ∧ Φ res outs :=
  (comesP_of hl h).elim fun res h => h.elim fun outs h => ⟨res, outs, r_slices_Clone_impl_Hold_impl_Hold ok h.1, h.2⟩

def i_impl_Ring_copied : IFn := ⟨12, [.cell true 4 2],
 .seq (.reg [⟨some 1, none, .box 4 (.t 0)⟩,
   ⟨some 2, none, .alloc [.int .i64 0, .int .i64 0, .z 1, .z 1]⟩]) <|
 .seq (.draw [⟨some 3, none, .faddr 2 (.t 1)⟩,
   ⟨some 4, none, .load false 1 (.t 3)⟩,
   ⟨some 5, none, .call (.f f_slices_Clone_int_int) [.t 4] true false⟩,
   ⟨some 6, none, .faddr 3 (.t 1)⟩,
   ⟨some 7, none, .load false 1 (.t 6)⟩,
   ⟨some 8, none, .call (.f f_slices_Clone_int_int) [.t 7] true false⟩,
   ⟨some 9, none, .faddr 2 (.t 1)⟩,
   ⟨none, none, .store 1 (.t 9) (.t 5)⟩,
   ⟨some 10, none, .faddr 3 (.t 1)⟩,
   ⟨none, none, .store 1 (.t 10) (.t 8)⟩] [(0, 3), (1, 3), (2, 3), (0, 4), (1, 4), (2, 4), (5, 6)]) <|
 .seq (.reg [⟨some 11, none, .load true 4 (.t 1)⟩,
   ⟨none, none, .store 4 (.t 2) (.t 11)⟩]) <|
 .ret⟩
theorem r_impl_Ring_copied {args : List A} {res : R} {outs : List (List O)} (ok : okArgs args = true) (h : Comes PG i_impl_Ring_copied args res outs) : Ret PG f_impl_Ring_copied args res outs :=
  ret_of hmix Tryz.func135 (by kernel_rfl) ok h
theorem p_impl_Ring_copied {args : List A} {Φ : R → List (List O) → Prop} (ok : okArgs args = true) (hl : decide (args.length ≤ i_impl_Ring_copied.ntmps) = true)
    (h : den PG (finQ i_impl_Ring_copied.res args Φ) [.code i_impl_Ring_copied.body] .norm (st i_impl_Ring_copied.ntmps (pairs 0 (entry 0 args).1) (entry 0 args).2)) : ∃ res outs, Ret PG f_impl_Ring_copied args res outs ∧ Φ res outs :=
  (comesP_of hl h).elim fun res h => h.elim fun outs h => ⟨res, outs, r_impl_Ring_copied ok h.1, h.2⟩

def i_impl_Reply_1 : IFn := ⟨13, [],
 .reg [⟨some 5, none, .faddr 1 (.t 2)⟩,
  ⟨some 6, none, .load false 1 (.t 5)⟩,
  ⟨some 7, none, .mov (.t 0)⟩,
  ⟨some 8, none, .mov (.t 1)⟩,
  ⟨some 9, none, .build [.int .i64 0, .str []] [(0, 1, .t 7), (1, 1, .t 8)]⟩,
  ⟨some 10, none, .bslice 2 1 (.agg [.int .i64 0, .str []]) [(0, .t 9)]⟩,
  ⟨some 11, none, .app 2 24 (.t 6) (.t 10)⟩,
  ⟨some 12, none, .faddr 1 (.t 2)⟩,
  ⟨none, none, .store 1 (.t 12) (.t 11)⟩]⟩
theorem r_impl_Reply_1 {args : List A} {res : R} {outs : List (List O)} (ok : okArgs args = true) (h : Comes PG i_impl_Reply_1 args res outs) : Ret PG f_impl_Reply_1 args res outs :=
  ret_of hmix Tryz.func138 (by kernel_rfl) ok h
theorem p_impl_Reply_1 {args : List A} {Φ : R → List (List O) → Prop} (ok : okArgs args = true) (hl : decide (args.length ≤ i_impl_Reply_1.ntmps) = true)
    (h : den PG (finQ i_impl_Reply_1.res args Φ) [.code i_impl_Reply_1.body] .norm (st i_impl_Reply_1.ntmps (pairs 0 (entry 0 args).1) (entry 0 args).2)) : ∃ res outs, Ret PG f_impl_Reply_1 args res outs ∧ Φ res outs :=
  (comesP_of hl h).elim fun res h => h.elim fun outs h => ⟨res, outs, r_impl_Reply_1 ok h.1, h.2⟩

def i_slices_IndexFunc_impl_Slot_impl_Slot : IFn := ⟨19, [.t 4],
 .seq (.reg [⟨some 4, none, .mov (.c (.int .i64 0))⟩]) <|
 .seq (.seq (.reg [⟨some 6, none, .mov (.t 0)⟩,
    ⟨some 7, none, .len false (.t 6)⟩,
    ⟨some 8, none, .mov (.c (.int .i64 0))⟩]) <|
  .blk 0 (
   .loop [0, 1, 7, 8] [] (
    .seq (.reg [⟨some 9, none, .bin .lss (.t 8) (.t 7)⟩]) <|
    .seq (.ite (.t 9) (
      .skip) (
      .exit 0)) <|
    .seq (.blk 1 (
      .seq (.reg [⟨some 10, none, .mov (.t 8)⟩,
        ⟨some 5, none, .mov (.t 10)⟩]) <|
      .seq (.reg [⟨some 11, none, .mov (.t 1)⟩,
        ⟨some 12, none, .mov (.t 0)⟩,
        ⟨some 13, none, .mov (.t 5)⟩,
        ⟨some 14, none, .iaddr 3 (.t 12) (.t 13)⟩,
        ⟨some 15, none, .load true 3 (.t 14)⟩,
        ⟨some 16, none, .call (.t 11) [.t 15] true false⟩]) <|
      .ite (.t 16) (
       .seq (.reg [⟨some 17, none, .mov (.t 5)⟩,
         ⟨some 4, none, .mov (.t 17)⟩]) <|
       .ret) (
       .skip))) <|
    .reg [⟨some 18, none, .bin .add (.t 8) (.c (.int .i64 1))⟩,
     ⟨some 8, none, .mov (.t 18)⟩]))) <|
 .seq (.reg [⟨some 4, none, .mov (.c (.int .i64 (-1)))⟩]) <|
 .ret⟩
theorem r_slices_IndexFunc_impl_Slot_impl_Slot {args : List A} {res : R} {outs : List (List O)} (ok : okArgs args = true) (h : Comes PG i_slices_IndexFunc_impl_Slot_impl_Slot args res outs) : Ret PG f_slices_IndexFunc_impl_Slot_impl_Slot args res outs :=
  ret_of hmix Tryz.func139 (by kernel_rfl) ok h
theorem p_slices_IndexFunc_impl_Slot_impl_Slot {args : List A} {Φ : R → List (List O) → Prop} (ok : okArgs args = true) (hl : decide (args.length ≤ i_slices_IndexFunc_impl_Slot_impl_Slot.ntmps) = true)
    (h : den PG (finQ i_slices_IndexFunc_impl_Slot_impl_Slot.res args Φ) [.code i_slices_IndexFunc_impl_Slot_impl_Slot.body] .norm (st i_slices_IndexFunc_impl_Slot_impl_Slot.ntmps (pairs 0 (entry 0 args).1) (entry 0 args).2)) : ∃ res outs, Ret PG f_slices_IndexFunc_impl_Slot_impl_Slot args res outs ∧ Φ res outs :=
  (comesP_of hl h).elim fun res h => h.elim fun outs h => ⟨res, outs, r_slices_IndexFunc_impl_Slot_impl_Slot ok h.1, h.2⟩

def i_impl_slotAt_1 : IFn := ⟨15, [.t 4],
 .seq (.reg [⟨some 3, none, .box 3 (.t 0)⟩,
   ⟨some 4, none, .mov (.c (.bool false))⟩]) <|
 .seq (.reg [⟨some 5, none, .faddr 0 (.t 3)⟩,
   ⟨some 6, none, .load false 1 (.t 5)⟩,
   ⟨some 7, none, .load false 1 (.t 1)⟩,
   ⟨some 8, none, .bin .eql (.t 6) (.t 7)⟩,
   ⟨some 9, none, .mov (.t 8)⟩,
   ⟨some 10, some (9, true), .faddr 1 (.t 3)⟩,
   ⟨some 11, some (9, true), .load false 1 (.t 10)⟩,
   ⟨some 12, some (9, true), .load false 1 (.t 2)⟩,
   ⟨some 13, some (9, true), .bin .eql (.t 11) (.t 12)⟩,
   ⟨some 14, none, .pick (.t 9) (.t 13) (.c (.bool false))⟩,
   ⟨some 4, none, .mov (.t 14)⟩]) <|
 .ret⟩
theorem r_impl_slotAt_1 {args : List A} {res : R} {outs : List (List O)} (ok : okArgs args = true) (h : Comes PG i_impl_slotAt_1 args res outs) : Ret PG f_impl_slotAt_1 args res outs :=
  ret_of hmix Tryz.func140 (by kernel_rfl) ok h
theorem p_impl_slotAt_1 {args : List A} {Φ : R → List (List O) → Prop} (ok : okArgs args = true) (hl : decide (args.length ≤ i_impl_slotAt_1.ntmps) = true)
    (h : den PG (finQ i_impl_slotAt_1.res args Φ) [.code i_impl_slotAt_1.body] .norm (st i_impl_slotAt_1.ntmps (pairs 0 (entry 0 args).1) (entry 0 args).2)) : ∃ res outs, Ret PG f_impl_slotAt_1 args res outs ∧ Φ res outs :=
  (comesP_of hl h).elim fun res h => h.elim fun outs h => ⟨res, outs, r_impl_slotAt_1 ok h.1, h.2⟩

def i_impl_SlotOk : IFn := ⟨17, [.t 2],
 .seq (.reg [⟨some 1, none, .box 3 (.t 0)⟩,
   ⟨some 2, none, .mov (.c (.bool false))⟩]) <|
 .seq (.reg [⟨some 3, none, .faddr 0 (.t 1)⟩,
   ⟨some 4, none, .load false 1 (.t 3)⟩,
   ⟨some 5, none, .call (.f f_impl_isWide) [.t 4, .c (.int .i64 6)] false false⟩,
   ⟨some 6, none, .mov (.t 5)⟩,
   ⟨some 7, some (6, true), .faddr 1 (.t 1)⟩,
   ⟨some 8, some (6, true), .load false 1 (.t 7)⟩,
   ⟨some 9, some (6, true), .call (.f f_impl_isWide) [.t 8, .c (.int .i64 4)] false false⟩,
   ⟨some 10, none, .pick (.t 6) (.t 9) (.c (.bool false))⟩,
   ⟨some 11, none, .mov (.t 10)⟩,
   ⟨some 12, some (11, true), .faddr 2 (.t 1)⟩,
   ⟨some 13, some (11, true), .load false 1 (.t 12)⟩,
   ⟨some 14, some (11, true), .len false (.t 13)⟩,
   ⟨some 15, some (11, true), .call (.f f_impl_within) [.t 14, .c (.int .i64 1), .c (.int .i64 200)] false false⟩,
   ⟨some 16, none, .pick (.t 11) (.t 15) (.c (.bool false))⟩,
   ⟨some 2, none, .mov (.t 16)⟩]) <|
 .ret⟩
theorem r_impl_SlotOk {args : List A} {res : R} {outs : List (List O)} (ok : okArgs args = true) (h : Comes PG i_impl_SlotOk args res outs) : Ret PG f_impl_SlotOk args res outs :=
  ret_of hmix Tryz.func149 (by kernel_rfl) ok h
theorem p_impl_SlotOk {args : List A} {Φ : R → List (List O) → Prop} (ok : okArgs args = true) (hl : decide (args.length ≤ i_impl_SlotOk.ntmps) = true)
    (h : den PG (finQ i_impl_SlotOk.res args Φ) [.code i_impl_SlotOk.body] .norm (st i_impl_SlotOk.ntmps (pairs 0 (entry 0 args).1) (entry 0 args).2)) : ∃ res outs, Ret PG f_impl_SlotOk args res outs ∧ Φ res outs :=
  (comesP_of hl h).elim fun res h => h.elim fun outs h => ⟨res, outs, r_impl_SlotOk ok h.1, h.2⟩

def i_slices_Equal_int_int : IFn := ⟨26, [.t 4],
 .seq (.reg [⟨some 4, none, .mov (.c (.bool false))⟩]) <|
 .seq (.seq (.reg [⟨some 6, none, .mov (.t 0)⟩,
    ⟨some 7, none, .len false (.t 6)⟩,
    ⟨some 8, none, .mov (.t 1)⟩,
    ⟨some 9, none, .len false (.t 8)⟩,
    ⟨some 10, none, .bin .neq (.t 7) (.t 9)⟩]) <|
  .ite (.t 10) (
   .seq (.reg [⟨some 4, none, .mov (.c (.bool false))⟩]) <|
   .ret) (
   .skip)) <|
 .seq (.seq (.reg [⟨some 11, none, .mov (.t 0)⟩,
    ⟨some 12, none, .len false (.t 11)⟩,
    ⟨some 13, none, .mov (.c (.int .i64 0))⟩]) <|
  .blk 0 (
   .loop [0, 1, 12, 13] [] (
    .seq (.reg [⟨some 14, none, .bin .lss (.t 13) (.t 12)⟩]) <|
    .seq (.ite (.t 14) (
      .skip) (
      .exit 0)) <|
    .seq (.blk 1 (
      .seq (.reg [⟨some 15, none, .mov (.t 13)⟩,
        ⟨some 5, none, .mov (.t 15)⟩]) <|
      .seq (.draw [⟨some 16, none, .mov (.t 0)⟩,
        ⟨some 17, none, .mov (.t 5)⟩,
        ⟨some 18, none, .iaddr 1 (.t 16) (.t 17)⟩,
        ⟨some 19, none, .load false 1 (.t 18)⟩,
        ⟨some 20, none, .mov (.t 1)⟩,
        ⟨some 21, none, .mov (.t 5)⟩,
        ⟨some 22, none, .iaddr 1 (.t 20) (.t 21)⟩,
        ⟨some 23, none, .load false 1 (.t 22)⟩,
        ⟨some 24, none, .bin .neq (.t 19) (.t 23)⟩] [(0, 1), (0, 4), (1, 4), (2, 4), (3, 4), (0, 5), (1, 5), (2, 5), (3, 5), (4, 5), (0, 6), (1, 6), (2, 6), (3, 6), (0, 7), (1, 7), (2, 7), (3, 7)]) <|
      .ite (.t 24) (
       .seq (.reg [⟨some 4, none, .mov (.c (.bool false))⟩]) <|
       .ret) (
       .skip))) <|
    .reg [⟨some 25, none, .bin .add (.t 13) (.c (.int .i64 1))⟩,
     ⟨some 13, none, .mov (.t 25)⟩]))) <|
 .seq (.reg [⟨some 4, none, .mov (.c (.bool true))⟩]) <|
 .ret⟩
theorem r_slices_Equal_int_int {args : List A} {res : R} {outs : List (List O)} (ok : okArgs args = true) (h : Comes PG i_slices_Equal_int_int args res outs) : Ret PG f_slices_Equal_int_int args res outs :=
  ret_of hmix Tryz.func150 (by kernel_rfl) ok h
theorem p_slices_Equal_int_int {args : List A} {Φ : R → List (List O) → Prop} (ok : okArgs args = true) (hl : decide (args.length ≤ i_slices_Equal_int_int.ntmps) = true)
    (h : den PG (finQ i_slices_Equal_int_int.res args Φ) [.code i_slices_Equal_int_int.body] .norm (st i_slices_Equal_int_int.ntmps (pairs 0 (entry 0 args).1) (entry 0 args).2)) : ∃ res outs, Ret PG f_slices_Equal_int_int args res outs ∧ Φ res outs :=
  (comesP_of hl h).elim fun res h => h.elim fun outs h => ⟨res, outs, r_slices_Equal_int_int ok h.1, h.2⟩

def i_slices_EqualFunc_impl_Slot_impl_Slot_impl_Slot_impl_Slot : IFn := ⟨32, [.t 6],
 .seq (.reg [⟨some 6, none, .mov (.c (.bool false))⟩]) <|
 .seq (.seq (.reg [⟨some 10, none, .mov (.t 0)⟩,
    ⟨some 11, none, .len false (.t 10)⟩,
    ⟨some 12, none, .mov (.t 1)⟩,
    ⟨some 13, none, .len false (.t 12)⟩,
    ⟨some 14, none, .bin .neq (.t 11) (.t 13)⟩]) <|
  .ite (.t 14) (
   .seq (.reg [⟨some 6, none, .mov (.c (.bool false))⟩]) <|
   .ret) (
   .skip)) <|
 .seq (.seq (.reg [⟨some 15, none, .mov (.t 0)⟩,
    ⟨some 16, none, .len false (.t 15)⟩,
    ⟨some 17, none, .mov (.c (.int .i64 0))⟩]) <|
  .blk 0 (
   .loop [1, 2, 15, 16, 17] [] (
    .seq (.reg [⟨some 18, none, .bin .lss (.t 17) (.t 16)⟩]) <|
    .seq (.ite (.t 18) (
      .skip) (
      .exit 0)) <|
    .seq (.blk 1 (
      .seq (.reg [⟨some 19, none, .mov (.t 17)⟩,
        ⟨some 20, none, .iaddr 3 (.t 15) (.t 17)⟩,
        ⟨some 21, none, .load true 3 (.t 20)⟩,
        ⟨some 8, none, .alloc [.str [], .str [], .z 1]⟩,
        ⟨some 7, none, .mov (.t 19)⟩,
        ⟨none, none, .store 3 (.t 8) (.t 21)⟩]) <|
      .seq (.reg [⟨some 22, none, .mov (.t 1)⟩,
        ⟨some 23, none, .mov (.t 7)⟩,
        ⟨some 24, none, .iaddr 3 (.t 22) (.t 23)⟩,
        ⟨some 25, none, .load true 3 (.t 24)⟩,
        ⟨some 9, none, .alloc [.str [], .str [], .z 1]⟩,
        ⟨none, none, .store 3 (.t 9) (.t 25)⟩]) <|
      .seq (.reg [⟨some 26, none, .mov (.t 2)⟩,
        ⟨some 27, none, .load true 3 (.t 8)⟩,
        ⟨some 28, none, .load true 3 (.t 9)⟩,
        ⟨some 29, none, .call (.t 26) [.t 27, .t 28] true false⟩,
        ⟨some 30, none, .un .not (.t 29)⟩]) <|
      .ite (.t 30) (
       .seq (.reg [⟨some 6, none, .mov (.c (.bool false))⟩]) <|
       .ret) (
       .skip))) <|
    .reg [⟨some 31, none, .bin .add (.t 17) (.c (.int .i64 1))⟩,
     ⟨some 17, none, .mov (.t 31)⟩]))) <|
 .seq (.reg [⟨some 6, none, .mov (.c (.bool true))⟩]) <|
 .ret⟩
theorem r_slices_EqualFunc_impl_Slot_impl_Slot_impl_Slot_impl_Slot {args : List A} {res : R} {outs : List (List O)} (ok : okArgs args = true) (h : Comes PG i_slices_EqualFunc_impl_Slot_impl_Slot_impl_Slot_impl_Slot args res outs) : Ret PG f_slices_EqualFunc_impl_Slot_impl_Slot_impl_Slot_impl_Slot args res outs :=
  ret_of hmix Tryz.func151 (by kernel_rfl) ok h
theorem p_slices_EqualFunc_impl_Slot_impl_Slot_impl_Slot_impl_Slot {args : List A} {Φ : R → List (List O) → Prop} (ok : okArgs args = true) (hl : decide (args.length ≤ i_slices_EqualFunc_impl_Slot_impl_Slot_impl_Slot_impl_Slot.ntmps) = true)
    (h : den PG (finQ i_slices_EqualFunc_impl_Slot_impl_Slot_impl_Slot_impl_Slot.res args Φ) [.code i_slices_EqualFunc_impl_Slot_impl_Slot_impl_Slot_impl_Slot.body] .norm (st i_slices_EqualFunc_impl_Slot_impl_Slot_impl_Slot_impl_Slot.ntmps (pairs 0 (entry 0 args).1) (entry 0 args).2)) : ∃ res outs, Ret PG f_slices_EqualFunc_impl_Slot_impl_Slot_impl_Slot_impl_Slot args res outs ∧ Φ res outs :=
  (comesP_of hl h).elim fun res h => h.elim fun outs h => ⟨res, outs, r_slices_EqualFunc_impl_Slot_impl_Slot_impl_Slot_impl_Slot ok h.1, h.2⟩

def i_impl_SlotsSame_1 : IFn := ⟨24, [.t 4],
 .seq (.reg [⟨some 2, none, .box 3 (.t 0)⟩,
   ⟨some 3, none, .box 3 (.t 1)⟩,
   ⟨some 4, none, .mov (.c (.bool false))⟩]) <|
 .seq (.reg [⟨some 5, none, .faddr 0 (.t 2)⟩,
   ⟨some 6, none, .load false 1 (.t 5)⟩,
   ⟨some 7, none, .faddr 0 (.t 3)⟩,
   ⟨some 8, none, .load false 1 (.t 7)⟩,
   ⟨some 9, none, .bin .eql (.t 6) (.t 8)⟩,
   ⟨some 10, none, .mov (.t 9)⟩,
   ⟨some 11, some (10, true), .faddr 1 (.t 2)⟩,
   ⟨some 12, some (10, true), .load false 1 (.t 11)⟩,
   ⟨some 13, some (10, true), .faddr 1 (.t 3)⟩,
   ⟨some 14, some (10, true), .load false 1 (.t 13)⟩,
   ⟨some 15, some (10, true), .bin .eql (.t 12) (.t 14)⟩,
   ⟨some 16, none, .pick (.t 10) (.t 15) (.c (.bool false))⟩,
   ⟨some 17, none, .mov (.t 16)⟩,
   ⟨some 18, some (17, true), .faddr 2 (.t 2)⟩,
   ⟨some 19, some (17, true), .load false 1 (.t 18)⟩,
   ⟨some 20, some (17, true), .faddr 2 (.t 3)⟩,
   ⟨some 21, some (17, true), .load false 1 (.t 20)⟩,
   ⟨some 22, some (17, true), .call (.f f_slices_Equal_byte_byte) [.t 19, .t 21] false false⟩,
   ⟨some 23, none, .pick (.t 17) (.t 22) (.c (.bool false))⟩,
   ⟨some 4, none, .mov (.t 23)⟩]) <|
 .ret⟩
theorem r_impl_SlotsSame_1 {args : List A} {res : R} {outs : List (List O)} (ok : okArgs args = true) (h : Comes PG i_impl_SlotsSame_1 args res outs) : Ret PG f_impl_SlotsSame_1 args res outs :=
  ret_of hmix Tryz.func152 (by kernel_rfl) ok h
theorem p_impl_SlotsSame_1 {args : List A} {Φ : R → List (List O) → Prop} (ok : okArgs args = true) (hl : decide (args.length ≤ i_impl_SlotsSame_1.ntmps) = true)
    (h : den PG (finQ i_impl_SlotsSame_1.res args Φ) [.code i_impl_SlotsSame_1.body] .norm (st i_impl_SlotsSame_1.ntmps (pairs 0 (entry 0 args).1) (entry 0 args).2)) : ∃ res outs, Ret PG f_impl_SlotsSame_1 args res outs ∧ Φ res outs :=
  (comesP_of hl h).elim fun res h => h.elim fun outs h => ⟨res, outs, r_impl_SlotsSame_1 ok h.1, h.2⟩

def i_slices_Equal_byte_byte : IFn := ⟨26, [.t 4],
 .seq (.reg [⟨some 4, none, .mov (.c (.bool false))⟩]) <|
 .seq (.seq (.reg [⟨some 6, none, .mov (.t 0)⟩,
    ⟨some 7, none, .len false (.t 6)⟩,
    ⟨some 8, none, .mov (.t 1)⟩,
    ⟨some 9, none, .len false (.t 8)⟩,
    ⟨some 10, none, .bin .neq (.t 7) (.t 9)⟩]) <|
  .ite (.t 10) (
   .seq (.reg [⟨some 4, none, .mov (.c (.bool false))⟩]) <|
   .ret) (
   .skip)) <|
 .seq (.seq (.reg [⟨some 11, none, .mov (.t 0)⟩,
    ⟨some 12, none, .len false (.t 11)⟩,
    ⟨some 13, none, .mov (.c (.int .i64 0))⟩]) <|
  .blk 0 (
   .loop [0, 1, 12, 13] [] (
    .seq (.reg [⟨some 14, none, .bin .lss (.t 13) (.t 12)⟩]) <|
    .seq (.ite (.t 14) (
      .skip) (
      .exit 0)) <|
    .seq (.blk 1 (
      .seq (.reg [⟨some 15, none, .mov (.t 13)⟩,
        ⟨some 5, none, .mov (.t 15)⟩]) <|
      .seq (.draw [⟨some 16, none, .mov (.t 0)⟩,
        ⟨some 17, none, .mov (.t 5)⟩,
        ⟨some 18, none, .iaddr 1 (.t 16) (.t 17)⟩,
        ⟨some 19, none, .load false 1 (.t 18)⟩,
        ⟨some 20, none, .mov (.t 1)⟩,
        ⟨some 21, none, .mov (.t 5)⟩,
        ⟨some 22, none, .iaddr 1 (.t 20) (.t 21)⟩,
        ⟨some 23, none, .load false 1 (.t 22)⟩,
        ⟨some 24, none, .bin .neq (.t 19) (.t 23)⟩] [(0, 1), (0, 4), (1, 4), (2, 4), (3, 4), (0, 5), (1, 5), (2, 5), (3, 5), (4, 5), (0, 6), (1, 6), (2, 6), (3, 6), (0, 7), (1, 7), (2, 7), (3, 7)]) <|
      .ite (.t 24) (
       .seq (.reg [⟨some 4, none, .mov (.c (.bool false))⟩]) <|
       .ret) (
       .skip))) <|
    .reg [⟨some 25, none, .bin .add (.t 13) (.c (.int .i64 1))⟩,
     ⟨some 13, none, .mov (.t 25)⟩]))) <|
 .seq (.reg [⟨some 4, none, .mov (.c (.bool true))⟩]) <|
 .ret⟩
theorem r_slices_Equal_byte_byte {args : List A} {res : R} {outs : List (List O)} (ok : okArgs args = true) (h : Comes PG i_slices_Equal_byte_byte args res outs) : Ret PG f_slices_Equal_byte_byte args res outs :=
  ret_of hmix Tryz.func153 (by kernel_rfl) ok h
theorem p_slices_Equal_byte_byte {args : List A} {Φ : R → List (List O) → Prop} (ok : okArgs args = true) (hl : decide (args.length ≤ i_slices_Equal_byte_byte.ntmps) = true)
    (h : den PG (finQ i_slices_Equal_byte_byte.res args Φ) [.code i_slices_Equal_byte_byte.body] .norm (st i_slices_Equal_byte_byte.ntmps (pairs 0 (entry 0 args).1) (entry 0 args).2)) : ∃ res outs, Ret PG f_slices_Equal_byte_byte args res outs ∧ Φ res outs :=
  (comesP_of hl h).elim fun res h => h.elim fun outs h => ⟨res, outs, r_slices_Equal_byte_byte ok h.1, h.2⟩

def i_spec_AcctIdOk : IFn := ⟨10, [.t 2],
 .seq (.reg [⟨some 2, none, .mov (.c (.bool false))⟩]) <|
 .seq (.reg [⟨some 3, none, .mov (.t 0)⟩,
   ⟨some 4, none, .len true (.t 3)⟩,
   ⟨some 5, none, .bin .leq (.t 4) (.c (.int .i64 19))⟩,
   ⟨some 6, none, .mov (.t 5)⟩,
   ⟨some 7, some (6, true), .mov (.t 0)⟩,
   ⟨some 8, some (6, true), .call (.f f_spec_LuhnOk) [.t 7] false false⟩,
   ⟨some 9, none, .pick (.t 6) (.t 8) (.c (.bool false))⟩,
   ⟨some 2, none, .mov (.t 9)⟩]) <|
 .ret⟩
theorem r_spec_AcctIdOk {args : List A} {res : R} {outs : List (List O)} (ok : okArgs args = true) (h : Comes PG i_spec_AcctIdOk args res outs) : Ret PG f_spec_AcctIdOk args res outs :=
  ret_of hmix Tryz.func154 (by kernel_rfl) ok h
theorem p_spec_AcctIdOk {args : List A} {Φ : R → List (List O) → Prop} (ok : okArgs args = true) (hl : decide (args.length ≤ i_spec_AcctIdOk.ntmps) = true)
    (h : den PG (finQ i_spec_AcctIdOk.res args Φ) [.code i_spec_AcctIdOk.body] .norm (st i_spec_AcctIdOk.ntmps (pairs 0 (entry 0 args).1) (entry 0 args).2)) : ∃ res outs, Ret PG f_spec_AcctIdOk args res outs ∧ Φ res outs :=
  (comesP_of hl h).elim fun res h => h.elim fun outs h => ⟨res, outs, r_spec_AcctIdOk ok h.1, h.2⟩

def i_spec_l01Money : IFn := ⟨9, [.t 2],
 .seq (.reg [⟨some 2, none, .mov (.c (.bool false))⟩]) <|
 .seq (.reg [⟨some 3, none, .mov (.t 0)⟩,
   ⟨some 4, none, .bin .geq (.t 3) (.c (.int .i64 0))⟩,
   ⟨some 5, none, .mov (.t 4)⟩,
   ⟨some 6, some (5, true), .mov (.t 0)⟩,
   ⟨some 7, some (5, true), .bin .leq (.t 6) (.c (.int .i64 4611686018427387904))⟩,
   ⟨some 8, none, .pick (.t 5) (.t 7) (.c (.bool false))⟩,
   ⟨some 2, none, .mov (.t 8)⟩]) <|
 .ret⟩
theorem r_spec_l01Money {args : List A} {res : R} {outs : List (List O)} (ok : okArgs args = true) (h : Comes PG i_spec_l01Money args res outs) : Ret PG f_spec_l01Money args res outs :=
  ret_of hmix Tryz.func155 (by kernel_rfl) ok h
theorem p_spec_l01Money {args : List A} {Φ : R → List (List O) → Prop} (ok : okArgs args = true) (hl : decide (args.length ≤ i_spec_l01Money.ntmps) = true)
    (h : den PG (finQ i_spec_l01Money.res args Φ) [.code i_spec_l01Money.body] .norm (st i_spec_l01Money.ntmps (pairs 0 (entry 0 args).1) (entry 0 args).2)) : ∃ res outs, Ret PG f_spec_l01Money args res outs ∧ Φ res outs :=
  (comesP_of hl h).elim fun res h => h.elim fun outs h => ⟨res, outs, r_spec_l01Money ok h.1, h.2⟩

def i_spec_HoldsOk : IFn := ⟨34, [.t 2],
 .seq (.reg [⟨some 2, none, .mov (.c (.bool false))⟩]) <|
 .seq (.seq (.reg [⟨some 5, none, .mov (.t 0)⟩,
    ⟨some 6, none, .len false (.t 5)⟩,
    ⟨some 7, none, .mov (.c (.int .i64 0))⟩]) <|
  .blk 0 (
   .loop [0, 5, 6, 7] [] (
    .seq (.reg [⟨some 8, none, .bin .lss (.t 7) (.t 6)⟩]) <|
    .seq (.ite (.t 8) (
      .skip) (
      .exit 0)) <|
    .seq (.blk 1 (
      .seq (.reg [⟨some 9, none, .mov (.t 7)⟩,
        ⟨some 10, none, .iaddr 3 (.t 5) (.t 7)⟩,
        ⟨some 11, none, .load true 3 (.t 10)⟩,
        ⟨some 4, none, .alloc [.str [], .int .i64 0, .int .i64 0]⟩,
        ⟨some 3, none, .mov (.t 9)⟩,
        ⟨none, none, .store 3 (.t 4) (.t 11)⟩]) <|
      .seq (.draw [⟨some 12, none, .load true 3 (.t 4)⟩,
        ⟨some 13, none, .call (.f f_spec_HoldOk) [.t 12] false false⟩,
        ⟨some 14, none, .un .not (.t 13)⟩,
        ⟨some 15, none, .mov (.t 14)⟩,
        ⟨some 16, some (15, false), .mov (.t 3)⟩,
        ⟨some 17, some (15, false), .bin .gtr (.t 16) (.c (.int .i64 0))⟩,
        ⟨some 18, some (15, false), .mov (.t 17)⟩,
        ⟨some 19, some (18, true), .mov (.t 0)⟩,
        ⟨some 20, some (18, true), .mov (.t 3)⟩,
        ⟨some 21, some (18, true), .bin .sub (.t 20) (.c (.int .i64 1))⟩,
        ⟨some 22, some (18, true), .iaddr 3 (.t 19) (.t 21)⟩,
        ⟨some 23, some (18, true), .faddr 0 (.t 22)⟩,
        ⟨some 24, some (18, true), .load false 1 (.t 23)⟩,
        ⟨some 25, some (18, true), .faddr 0 (.t 4)⟩,
        ⟨some 26, some (18, true), .load false 1 (.t 25)⟩,
        ⟨some 27, some (18, true), .bin .geq (.t 24) (.t 26)⟩,
        ⟨some 28, some (15, false), .pick (.t 18) (.t 27) (.c (.bool false))⟩,
        ⟨some 29, none, .pick (.t 15) (.c (.bool true)) (.t 28)⟩] [(7, 8), (7, 9), (7, 13), (8, 13), (9, 13), (10, 13), (11, 13), (12, 13), (7, 14), (8, 14), (9, 14), (10, 14), (11, 14), (12, 14)]) <|
      .ite (.t 29) (
       .seq (.reg [⟨some 2, none, .mov (.c (.bool false))⟩]) <|
       .ret) (
       .skip))) <|
    .reg [⟨some 30, none, .bin .add (.t 7) (.c (.int .i64 1))⟩,
     ⟨some 7, none, .mov (.t 30)⟩]))) <|
 .seq (.reg [⟨some 31, none, .mov (.t 0)⟩,
   ⟨some 32, none, .len false (.t 31)⟩,
   ⟨some 33, none, .bin .leq (.t 32) (.c (.int .i64 4))⟩,
   ⟨some 2, none, .mov (.t 33)⟩]) <|
 .ret⟩
theorem r_spec_HoldsOk {args : List A} {res : R} {outs : List (List O)} (ok : okArgs args = true) (h : Comes PG i_spec_HoldsOk args res outs) : Ret PG f_spec_HoldsOk args res outs :=
  ret_of hmix Tryz.func156 (by kernel_rfl) ok h
theorem p_spec_HoldsOk {args : List A} {Φ : R → List (List O) → Prop} (ok : okArgs args = true) (hl : decide (args.length ≤ i_spec_HoldsOk.ntmps) = true)
    (h : den PG (finQ i_spec_HoldsOk.res args Φ) [.code i_spec_HoldsOk.body] .norm (st i_spec_HoldsOk.ntmps (pairs 0 (entry 0 args).1) (entry 0 args).2)) : ∃ res outs, Ret PG f_spec_HoldsOk args res outs ∧ Φ res outs :=
  (comesP_of hl h).elim fun res h => h.elim fun outs h => ⟨res, outs, r_spec_HoldsOk ok h.1, h.2⟩

def i_spec_RingOk : IFn := ⟨53, [.t 2],
 .seq (.reg [⟨some 1, none, .box 4 (.t 0)⟩,
   ⟨some 2, none, .mov (.c (.bool false))⟩]) <|
 .seq (.seq (.reg [⟨some 4, none, .faddr 0 (.t 1)⟩,
    ⟨some 5, none, .load false 1 (.t 4)⟩,
    ⟨some 6, none, .call (.f f_spec_l01In) [.t 5, .c (.int .i64 1), .c (.int .i64 1000)] false false⟩,
    ⟨some 7, none, .un .not (.t 6)⟩,
    ⟨some 8, none, .mov (.t 7)⟩,
    ⟨some 9, some (8, false), .faddr 2 (.t 1)⟩,
    ⟨some 10, some (8, false), .load false 1 (.t 9)⟩,
    ⟨some 11, some (8, false), .len false (.t 10)⟩,
    ⟨some 12, some (8, false), .call (.f f_spec_l01In) [.t 11, .c (.int .i64 1), .c (.int .i64 8)] false false⟩,
    ⟨some 13, some (8, false), .un .not (.t 12)⟩,
    ⟨some 14, none, .pick (.t 8) (.c (.bool true)) (.t 13)⟩,
    ⟨some 15, none, .mov (.t 14)⟩,
    ⟨some 16, some (15, false), .faddr 3 (.t 1)⟩,
    ⟨some 17, some (15, false), .load false 1 (.t 16)⟩,
    ⟨some 18, some (15, false), .len false (.t 17)⟩,
    ⟨some 19, some (15, false), .faddr 2 (.t 1)⟩,
    ⟨some 20, some (15, false), .load false 1 (.t 19)⟩,
    ⟨some 21, some (15, false), .len false (.t 20)⟩,
    ⟨some 22, some (15, false), .bin .neq (.t 18) (.t 21)⟩,
    ⟨some 23, none, .pick (.t 15) (.c (.bool true)) (.t 22)⟩,
    ⟨some 24, none, .mov (.t 23)⟩,
    ⟨some 25, some (24, false), .faddr 1 (.t 1)⟩,
    ⟨some 26, some (24, false), .load false 1 (.t 25)⟩,
    ⟨some 27, some (24, false), .call (.f f_spec_l06Time) [.t 26] false false⟩,
    ⟨some 28, some (24, false), .un .not (.t 27)⟩,
    ⟨some 29, none, .pick (.t 24) (.c (.bool true)) (.t 28)⟩]) <|
  .ite (.t 29) (
   .seq (.reg [⟨some 2, none, .mov (.c (.bool false))⟩]) <|
   .ret) (
   .skip)) <|
 .seq (.seq (.reg [⟨some 30, none, .faddr 2 (.t 1)⟩,
    ⟨some 31, none, .load false 1 (.t 30)⟩,
    ⟨some 32, none, .len false (.t 31)⟩,
    ⟨some 33, none, .mov (.c (.int .i64 0))⟩]) <|
  .blk 0 (
   .loop [1, 32, 33] [] (
    .seq (.reg [⟨some 34, none, .bin .lss (.t 33) (.t 32)⟩]) <|
    .seq (.ite (.t 34) (
      .skip) (
      .exit 0)) <|
    .seq (.blk 1 (
      .seq (.reg [⟨some 35, none, .mov (.t 33)⟩,
        ⟨some 3, none, .mov (.t 35)⟩]) <|
      .seq (.reg [⟨some 36, none, .faddr 2 (.t 1)⟩,
        ⟨some 37, none, .load false 1 (.t 36)⟩,
        ⟨some 38, none, .mov (.t 3)⟩,
        ⟨some 39, none, .iaddr 1 (.t 37) (.t 38)⟩,
        ⟨some 40, none, .load false 1 (.t 39)⟩,
        ⟨some 41, none, .call (.f f_spec_l01Money) [.t 40] false false⟩,
        ⟨some 42, none, .un .not (.t 41)⟩,
        ⟨some 43, none, .mov (.t 42)⟩,
        ⟨some 44, some (43, false), .faddr 3 (.t 1)⟩,
        ⟨some 45, some (43, false), .load false 1 (.t 44)⟩,
        ⟨some 46, some (43, false), .mov (.t 3)⟩,
        ⟨some 47, some (43, false), .iaddr 1 (.t 45) (.t 46)⟩,
        ⟨some 48, some (43, false), .load false 1 (.t 47)⟩,
        ⟨some 49, some (43, false), .call (.f f_spec_l01Money) [.t 48] false false⟩,
        ⟨some 50, some (43, false), .un .not (.t 49)⟩,
        ⟨some 51, none, .pick (.t 43) (.c (.bool true)) (.t 50)⟩]) <|
      .ite (.t 51) (
       .seq (.reg [⟨some 2, none, .mov (.c (.bool false))⟩]) <|
       .ret) (
       .skip))) <|
    .reg [⟨some 52, none, .bin .add (.t 33) (.c (.int .i64 1))⟩,
     ⟨some 33, none, .mov (.t 52)⟩]))) <|
 .seq (.reg [⟨some 2, none, .mov (.c (.bool true))⟩]) <|
 .ret⟩
theorem r_spec_RingOk {args : List A} {res : R} {outs : List (List O)} (ok : okArgs args = true) (h : Comes PG i_spec_RingOk args res outs) : Ret PG f_spec_RingOk args res outs :=
  ret_of hmix Tryz.func157 (by kernel_rfl) ok h
theorem p_spec_RingOk {args : List A} {Φ : R → List (List O) → Prop} (ok : okArgs args = true) (hl : decide (args.length ≤ i_spec_RingOk.ntmps) = true)
    (h : den PG (finQ i_spec_RingOk.res args Φ) [.code i_spec_RingOk.body] .norm (st i_spec_RingOk.ntmps (pairs 0 (entry 0 args).1) (entry 0 args).2)) : ∃ res outs, Ret PG f_spec_RingOk args res outs ∧ Φ res outs :=
  (comesP_of hl h).elim fun res h => h.elim fun outs h => ⟨res, outs, r_spec_RingOk ok h.1, h.2⟩

def i_spec_SlotsOk : IFn := ⟨42, [.t 2],
 .seq (.reg [⟨some 2, none, .mov (.c (.bool false))⟩]) <|
 .seq (.seq (.reg [⟨some 7, none, .mov (.t 0)⟩,
    ⟨some 8, none, .len false (.t 7)⟩,
    ⟨some 9, none, .mov (.c (.int .i64 0))⟩]) <|
  .blk 0 (
   .loop [0, 7, 8, 9] [] (
    .seq (.reg [⟨some 10, none, .bin .lss (.t 9) (.t 8)⟩]) <|
    .seq (.ite (.t 10) (
      .skip) (
      .exit 0)) <|
    .seq (.blk 1 (
      .seq (.reg [⟨some 11, none, .mov (.t 9)⟩,
        ⟨some 12, none, .iaddr 3 (.t 7) (.t 9)⟩,
        ⟨some 13, none, .load true 3 (.t 12)⟩,
        ⟨some 4, none, .alloc [.str [], .str [], .z 1]⟩,
        ⟨some 3, none, .mov (.t 11)⟩,
        ⟨none, none, .store 3 (.t 4) (.t 13)⟩]) <|
      .seq (.seq (.reg [⟨some 14, none, .load true 3 (.t 4)⟩,
         ⟨some 15, none, .call (.f f_spec_SlotOk) [.t 14] false false⟩,
         ⟨some 16, none, .un .not (.t 15)⟩]) <|
       .ite (.t 16) (
        .seq (.reg [⟨some 2, none, .mov (.c (.bool false))⟩]) <|
        .ret) (
        .skip)) <|
      .seq (.reg [⟨some 17, none, .mov (.t 0)⟩,
        ⟨some 18, none, .mov (.t 3)⟩,
        ⟨some 19, none, .slice 3 (.t 17) none (some (.t 18))⟩,
        ⟨some 20, none, .len false (.t 19)⟩,
        ⟨some 21, none, .mov (.c (.int .i64 0))⟩]) <|
      .blk 2 (
       .loop [0, 4, 7, 8, 9, 19, 20, 21] [] (
        .seq (.reg [⟨some 22, none, .bin .lss (.t 21) (.t 20)⟩]) <|
        .seq (.ite (.t 22) (
          .skip) (
          .exit 2)) <|
        .seq (.blk 3 (
          .seq (.reg [⟨some 23, none, .iaddr 3 (.t 19) (.t 21)⟩,
            ⟨some 24, none, .load true 3 (.t 23)⟩,
            ⟨some 6, none, .alloc [.str [], .str [], .z 1]⟩,
            ⟨none, none, .store 3 (.t 6) (.t 24)⟩]) <|
          .seq (.reg [⟨some 25, none, .faddr 0 (.t 6)⟩,
            ⟨some 26, none, .load false 1 (.t 25)⟩,
            ⟨some 27, none, .faddr 0 (.t 4)⟩,
            ⟨some 28, none, .load false 1 (.t 27)⟩,
            ⟨some 29, none, .bin .eql (.t 26) (.t 28)⟩,
            ⟨some 30, none, .mov (.t 29)⟩,
            ⟨some 31, some (30, true), .faddr 1 (.t 6)⟩,
            ⟨some 32, some (30, true), .load false 1 (.t 31)⟩,
            ⟨some 33, some (30, true), .faddr 1 (.t 4)⟩,
            ⟨some 34, some (30, true), .load false 1 (.t 33)⟩,
            ⟨some 35, some (30, true), .bin .eql (.t 32) (.t 34)⟩,
            ⟨some 36, none, .pick (.t 30) (.t 35) (.c (.bool false))⟩]) <|
          .ite (.t 36) (
           .seq (.reg [⟨some 2, none, .mov (.c (.bool false))⟩]) <|
           .ret) (
           .skip))) <|
        .reg [⟨some 37, none, .bin .add (.t 21) (.c (.int .i64 1))⟩,
         ⟨some 21, none, .mov (.t 37)⟩])))) <|
    .reg [⟨some 38, none, .bin .add (.t 9) (.c (.int .i64 1))⟩,
     ⟨some 9, none, .mov (.t 38)⟩]))) <|
 .seq (.reg [⟨some 39, none, .mov (.t 0)⟩,
   ⟨some 40, none, .len false (.t 39)⟩,
   ⟨some 41, none, .bin .leq (.t 40) (.c (.int .i64 6))⟩,
   ⟨some 2, none, .mov (.t 41)⟩]) <|
 .ret⟩
theorem r_spec_SlotsOk {args : List A} {res : R} {outs : List (List O)} (ok : okArgs args = true) (h : Comes PG i_spec_SlotsOk args res outs) : Ret PG f_spec_SlotsOk args res outs :=
  ret_of hmix Tryz.func158 (by kernel_rfl) ok h
theorem p_spec_SlotsOk {args : List A} {Φ : R → List (List O) → Prop} (ok : okArgs args = true) (hl : decide (args.length ≤ i_spec_SlotsOk.ntmps) = true)
    (h : den PG (finQ i_spec_SlotsOk.res args Φ) [.code i_spec_SlotsOk.body] .norm (st i_spec_SlotsOk.ntmps (pairs 0 (entry 0 args).1) (entry 0 args).2)) : ∃ res outs, Ret PG f_spec_SlotsOk args res outs ∧ Φ res outs :=
  (comesP_of hl h).elim fun res h => h.elim fun outs h => ⟨res, outs, r_spec_SlotsOk ok h.1, h.2⟩

def i_spec_l06Time : IFn := ⟨5, [.t 2],
 .seq (.reg [⟨some 2, none, .mov (.c (.bool false))⟩]) <|
 .seq (.reg [⟨some 3, none, .mov (.t 0)⟩,
   ⟨some 4, none, .call (.f f_spec_l01In) [.t 3, .c (.int .i64 0), .c (.int .i64 1000000000)] false false⟩,
   ⟨some 2, none, .mov (.t 4)⟩]) <|
 .ret⟩
theorem r_spec_l06Time {args : List A} {res : R} {outs : List (List O)} (ok : okArgs args = true) (h : Comes PG i_spec_l06Time args res outs) : Ret PG f_spec_l06Time args res outs :=
  ret_of hmix Tryz.func159 (by kernel_rfl) ok h
theorem p_spec_l06Time {args : List A} {Φ : R → List (List O) → Prop} (ok : okArgs args = true) (hl : decide (args.length ≤ i_spec_l06Time.ntmps) = true)
    (h : den PG (finQ i_spec_l06Time.res args Φ) [.code i_spec_l06Time.body] .norm (st i_spec_l06Time.ntmps (pairs 0 (entry 0 args).1) (entry 0 args).2)) : ∃ res outs, Ret PG f_spec_l06Time args res outs ∧ Φ res outs :=
  (comesP_of hl h).elim fun res h => h.elim fun outs h => ⟨res, outs, r_spec_l06Time ok h.1, h.2⟩

def i_spec_l06Copy : IFn := ⟨14, [.cell true 4 2],
 .seq (.reg [⟨some 1, none, .box 4 (.t 0)⟩,
   ⟨some 2, none, .alloc [.int .i64 0, .int .i64 0, .z 1, .z 1]⟩]) <|
 .seq (.reg [⟨some 3, none, .bslice 1 0 (.int .i64 0) []⟩,
   ⟨some 4, none, .faddr 2 (.t 1)⟩,
   ⟨some 5, none, .load false 1 (.t 4)⟩,
   ⟨some 6, none, .app 1 8 (.t 3) (.t 5)⟩,
   ⟨some 7, none, .faddr 2 (.t 1)⟩,
   ⟨none, none, .store 1 (.t 7) (.t 6)⟩]) <|
 .seq (.reg [⟨some 8, none, .bslice 1 0 (.int .i64 0) []⟩,
   ⟨some 9, none, .faddr 3 (.t 1)⟩,
   ⟨some 10, none, .load false 1 (.t 9)⟩,
   ⟨some 11, none, .app 1 8 (.t 8) (.t 10)⟩,
   ⟨some 12, none, .faddr 3 (.t 1)⟩,
   ⟨none, none, .store 1 (.t 12) (.t 11)⟩]) <|
 .seq (.reg [⟨some 13, none, .load true 4 (.t 1)⟩,
   ⟨none, none, .store 4 (.t 2) (.t 13)⟩]) <|
 .ret⟩
theorem r_spec_l06Copy {args : List A} {res : R} {outs : List (List O)} (ok : okArgs args = true) (h : Comes PG i_spec_l06Copy args res outs) : Ret PG f_spec_l06Copy args res outs :=
  ret_of hmix Tryz.func160 (by kernel_rfl) ok h
theorem p_spec_l06Copy {args : List A} {Φ : R → List (List O) → Prop} (ok : okArgs args = true) (hl : decide (args.length ≤ i_spec_l06Copy.ntmps) = true)
    (h : den PG (finQ i_spec_l06Copy.res args Φ) [.code i_spec_l06Copy.body] .norm (st i_spec_l06Copy.ntmps (pairs 0 (entry 0 args).1) (entry 0 args).2)) : ∃ res outs, Ret PG f_spec_l06Copy args res outs ∧ Φ res outs :=
  (comesP_of hl h).elim fun res h => h.elim fun outs h => ⟨res, outs, r_spec_l06Copy ok h.1, h.2⟩

def i_spec_RingRoll : IFn := ⟨81, [.cell true 4 4],
 .seq (.reg [⟨some 2, none, .box 4 (.t 0)⟩,
   ⟨some 4, none, .alloc [.int .i64 0, .int .i64 0, .z 1, .z 1]⟩]) <|
 .seq (.reg [⟨some 8, none, .load true 4 (.t 2)⟩,
   ⟨some 9, none, .call (.f f_spec_l06Copy) [.t 8] true false⟩,
   ⟨some 5, none, .alloc [.int .i64 0, .int .i64 0, .z 1, .z 1]⟩,
   ⟨none, none, .store 4 (.t 5) (.t 9)⟩]) <|
 .seq (.seq (.draw [⟨some 10, none, .load true 4 (.t 2)⟩,
    ⟨some 11, none, .call (.f f_spec_RingOk) [.t 10] false false⟩,
    ⟨some 12, none, .un .not (.t 11)⟩,
    ⟨some 13, none, .mov (.t 12)⟩,
    ⟨some 14, some (13, false), .mov (.t 1)⟩,
    ⟨some 15, some (13, false), .call (.f f_spec_l06Time) [.t 14] false false⟩,
    ⟨some 16, some (13, false), .un .not (.t 15)⟩,
    ⟨some 17, none, .pick (.t 13) (.c (.bool true)) (.t 16)⟩,
    ⟨some 18, none, .mov (.t 17)⟩,
    ⟨some 19, some (18, false), .mov (.t 1)⟩,
    ⟨some 20, some (18, false), .faddr 0 (.t 2)⟩,
    ⟨some 21, some (18, false), .load false 1 (.t 20)⟩,
    ⟨some 22, some (18, false), .bin .quo (.t 19) (.t 21)⟩,
    ⟨some 23, some (18, false), .faddr 1 (.t 2)⟩,
    ⟨some 24, some (18, false), .load false 1 (.t 23)⟩,
    ⟨some 25, some (18, false), .bin .leq (.t 22) (.t 24)⟩,
    ⟨some 26, none, .pick (.t 18) (.c (.bool true)) (.t 25)⟩] [(9, 10), (9, 11), (9, 13), (10, 13), (11, 13), (12, 13), (9, 14), (10, 14), (11, 14), (12, 14)]) <|
  .ite (.t 26) (
   .seq (.reg [⟨some 27, none, .load true 4 (.t 5)⟩,
     ⟨none, none, .store 4 (.t 4) (.t 27)⟩]) <|
   .ret) (
   .skip)) <|
 .seq (.draw [⟨some 28, none, .mov (.t 1)⟩,
   ⟨some 29, none, .faddr 0 (.t 2)⟩,
   ⟨some 30, none, .load false 1 (.t 29)⟩,
   ⟨some 31, none, .bin .quo (.t 28) (.t 30)⟩,
   ⟨some 32, none, .faddr 1 (.t 2)⟩,
   ⟨some 33, none, .load false 1 (.t 32)⟩,
   ⟨some 34, none, .bin .sub (.t 31) (.t 33)⟩,
   ⟨some 6, none, .mov (.t 34)⟩] [(0, 1), (0, 2), (0, 4), (1, 4), (2, 4), (3, 4), (0, 5), (1, 5), (2, 5), (3, 5)]) <|
 .seq (.seq (.reg [⟨some 35, none, .faddr 2 (.t 2)⟩,
    ⟨some 36, none, .load false 1 (.t 35)⟩,
    ⟨some 37, none, .len false (.t 36)⟩,
    ⟨some 38, none, .mov (.c (.int .i64 0))⟩]) <|
  .blk 0 (
   .loop [1, 2, 4, 5, 6, 37, 38] [] (
    .seq (.reg [⟨some 39, none, .bin .lss (.t 38) (.t 37)⟩]) <|
    .seq (.ite (.t 39) (
      .skip) (
      .exit 0)) <|
    .seq (.blk 1 (
      .seq (.reg [⟨some 40, none, .mov (.t 38)⟩,
        ⟨some 7, none, .mov (.t 40)⟩]) <|
      .seq (.reg [⟨some 41, none, .faddr 2 (.t 5)⟩,
        ⟨some 42, none, .load false 1 (.t 41)⟩,
        ⟨some 43, none, .mov (.t 7)⟩,
        ⟨some 44, none, .iaddr 1 (.t 42) (.t 43)⟩,
        ⟨none, none, .store 1 (.t 44) (.c (.int .i64 0))⟩]) <|
      .seq (.reg [⟨some 45, none, .faddr 3 (.t 5)⟩,
        ⟨some 46, none, .load false 1 (.t 45)⟩,
        ⟨some 47, none, .mov (.t 7)⟩,
        ⟨some 48, none, .iaddr 1 (.t 46) (.t 47)⟩,
        ⟨none, none, .store 1 (.t 48) (.c (.int .i64 0))⟩]) <|
      .seq (.reg [⟨some 49, none, .mov (.t 7)⟩,
        ⟨some 50, none, .mov (.t 6)⟩,
        ⟨some 51, none, .bin .geq (.t 49) (.t 50)⟩]) <|
      .ite (.t 51) (
       .seq (.draw [⟨some 52, none, .faddr 2 (.t 5)⟩,
         ⟨some 53, none, .load false 1 (.t 52)⟩,
         ⟨some 54, none, .mov (.t 7)⟩,
         ⟨some 55, none, .faddr 2 (.t 2)⟩,
         ⟨some 56, none, .load false 1 (.t 55)⟩,
         ⟨some 57, none, .mov (.t 7)⟩,
         ⟨some 58, none, .mov (.t 6)⟩,
         ⟨some 59, none, .bin .sub (.t 57) (.t 58)⟩,
         ⟨some 60, none, .iaddr 1 (.t 56) (.t 59)⟩,
         ⟨some 61, none, .load false 1 (.t 60)⟩,
         ⟨some 62, none, .iaddr 1 (.t 53) (.t 54)⟩,
         ⟨none, none, .store 1 (.t 62) (.t 61)⟩] [(0, 2), (1, 2), (0, 3), (1, 3), (2, 3), (0, 4), (1, 4), (2, 4), (0, 5), (1, 5), (2, 5), (3, 5), (4, 5), (0, 6), (1, 6), (2, 6), (3, 6), (4, 6), (5, 6), (0, 7), (1, 7), (2, 7), (3, 7), (4, 7), (0, 8), (1, 8), (2, 8), (0, 9), (1, 9), (2, 9)]) <|
       .draw [⟨some 63, none, .faddr 3 (.t 5)⟩,
        ⟨some 64, none, .load false 1 (.t 63)⟩,
        ⟨some 65, none, .mov (.t 7)⟩,
        ⟨some 66, none, .faddr 3 (.t 2)⟩,
        ⟨some 67, none, .load false 1 (.t 66)⟩,
        ⟨some 68, none, .mov (.t 7)⟩,
        ⟨some 69, none, .mov (.t 6)⟩,
        ⟨some 70, none, .bin .sub (.t 68) (.t 69)⟩,
        ⟨some 71, none, .iaddr 1 (.t 67) (.t 70)⟩,
        ⟨some 72, none, .load false 1 (.t 71)⟩,
        ⟨some 73, none, .iaddr 1 (.t 64) (.t 65)⟩,
        ⟨none, none, .store 1 (.t 73) (.t 72)⟩] [(0, 2), (1, 2), (0, 3), (1, 3), (2, 3), (0, 4), (1, 4), (2, 4), (0, 5), (1, 5), (2, 5), (3, 5), (4, 5), (0, 6), (1, 6), (2, 6), (3, 6), (4, 6), (5, 6), (0, 7), (1, 7), (2, 7), (3, 7), (4, 7), (0, 8), (1, 8), (2, 8), (0, 9), (1, 9), (2, 9)]) (
       .skip))) <|
    .reg [⟨some 74, none, .bin .add (.t 38) (.c (.int .i64 1))⟩,
     ⟨some 38, none, .mov (.t 74)⟩]))) <|
 .seq (.reg [⟨some 75, none, .mov (.t 1)⟩,
   ⟨some 76, none, .faddr 0 (.t 2)⟩,
   ⟨some 77, none, .load false 1 (.t 76)⟩,
   ⟨some 78, none, .bin .quo (.t 75) (.t 77)⟩,
   ⟨some 79, none, .faddr 1 (.t 5)⟩,
   ⟨none, none, .store 1 (.t 79) (.t 78)⟩]) <|
 .seq (.reg [⟨some 80, none, .load true 4 (.t 5)⟩,
   ⟨none, none, .store 4 (.t 4) (.t 80)⟩]) <|
 .ret⟩
theorem r_spec_RingRoll {args : List A} {res : R} {outs : List (List O)} (ok : okArgs args = true) (h : Comes PG i_spec_RingRoll args res outs) : Ret PG f_spec_RingRoll args res outs :=
  ret_of hmix Tryz.func161 (by kernel_rfl) ok h
theorem p_spec_RingRoll {args : List A} {Φ : R → List (List O) → Prop} (ok : okArgs args = true) (hl : decide (args.length ≤ i_spec_RingRoll.ntmps) = true)
    (h : den PG (finQ i_spec_RingRoll.res args Φ) [.code i_spec_RingRoll.body] .norm (st i_spec_RingRoll.ntmps (pairs 0 (entry 0 args).1) (entry 0 args).2)) : ∃ res outs, Ret PG f_spec_RingRoll args res outs ∧ Φ res outs :=
  (comesP_of hl h).elim fun res h => h.elim fun outs h => ⟨res, outs, r_spec_RingRoll ok h.1, h.2⟩

def i_spec_l08Copy : IFn := ⟨24, [.t 2],
 .seq (.reg [⟨some 2, none, .mov (.c (.z 3))⟩]) <|
 .seq (.reg [⟨some 6, none, .bslice 3 0 (.agg [.str [], .str [], .z 1]) []⟩,
   ⟨some 3, none, .mov (.t 6)⟩]) <|
 .seq (.seq (.reg [⟨some 7, none, .mov (.t 0)⟩,
    ⟨some 8, none, .len false (.t 7)⟩,
    ⟨some 9, none, .mov (.c (.int .i64 0))⟩]) <|
  .blk 0 (
   .loop [3, 7, 8, 9] [] (
    .seq (.reg [⟨some 10, none, .bin .lss (.t 9) (.t 8)⟩]) <|
    .seq (.ite (.t 10) (
      .skip) (
      .exit 0)) <|
    .seq (.blk 1 (
      .seq (.reg [⟨some 11, none, .iaddr 3 (.t 7) (.t 9)⟩,
        ⟨some 12, none, .load true 3 (.t 11)⟩,
        ⟨some 5, none, .alloc [.str [], .str [], .z 1]⟩,
        ⟨none, none, .store 3 (.t 5) (.t 12)⟩]) <|
      .seq (.reg [⟨some 13, none, .bslice 1 0 (.int .u8 0) []⟩,
        ⟨some 14, none, .faddr 2 (.t 5)⟩,
        ⟨some 15, none, .load false 1 (.t 14)⟩,
        ⟨some 16, none, .app 1 1 (.t 13) (.t 15)⟩,
        ⟨some 17, none, .faddr 2 (.t 5)⟩,
        ⟨none, none, .store 1 (.t 17) (.t 16)⟩]) <|
      .reg [⟨some 18, none, .mov (.t 3)⟩,
       ⟨some 19, none, .load true 3 (.t 5)⟩,
       ⟨some 20, none, .bslice 3 1 (.agg [.str [], .str [], .z 1]) [(0, .t 19)]⟩,
       ⟨some 21, none, .app 3 56 (.t 18) (.t 20)⟩,
       ⟨some 3, none, .mov (.t 21)⟩])) <|
    .reg [⟨some 22, none, .bin .add (.t 9) (.c (.int .i64 1))⟩,
     ⟨some 9, none, .mov (.t 22)⟩]))) <|
 .seq (.reg [⟨some 23, none, .mov (.t 3)⟩,
   ⟨some 2, none, .mov (.t 23)⟩]) <|
 .ret⟩
theorem r_spec_l08Copy {args : List A} {res : R} {outs : List (List O)} (ok : okArgs args = true) (h : Comes PG i_spec_l08Copy args res outs) : Ret PG f_spec_l08Copy args res outs :=
  ret_of hmix Tryz.func162 (by kernel_rfl) ok h
theorem p_spec_l08Copy {args : List A} {Φ : R → List (List O) → Prop} (ok : okArgs args = true) (hl : decide (args.length ≤ i_spec_l08Copy.ntmps) = true)
    (h : den PG (finQ i_spec_l08Copy.res args Φ) [.code i_spec_l08Copy.body] .norm (st i_spec_l08Copy.ntmps (pairs 0 (entry 0 args).1) (entry 0 args).2)) : ∃ res outs, Ret PG f_spec_l08Copy args res outs ∧ Φ res outs :=
  (comesP_of hl h).elim fun res h => h.elim fun outs h => ⟨res, outs, r_spec_l08Copy ok h.1, h.2⟩

def i_spec_l01Str : IFn := ⟨12, [.t 4],
 .seq (.reg [⟨some 4, none, .mov (.c (.str []))⟩]) <|
 .seq (.reg [⟨some 5, none, .mov (.t 1)⟩,
   ⟨some 6, none, .mov (.t 0)⟩,
   ⟨some 7, none, .mov (.t 1)⟩,
   ⟨some 8, none, .len false (.t 7)⟩,
   ⟨some 9, none, .call (.f f_spec_l01Below) [.t 6, .t 8] true false⟩,
   ⟨some 10, none, .iaddr 1 (.t 5) (.t 9)⟩,
   ⟨some 11, none, .load false 1 (.t 10)⟩,
   ⟨some 4, none, .mov (.t 11)⟩]) <|
 .ret⟩
theorem r_spec_l01Str {args : List A} {res : R} {outs : List (List O)} (ok : okArgs args = true) (h : Comes PG i_spec_l01Str args res outs) : Ret PG f_spec_l01Str args res outs :=
  ret_of hmix Tryz.func163 (by kernel_rfl) ok h
theorem p_spec_l01Str {args : List A} {Φ : R → List (List O) → Prop} (ok : okArgs args = true) (hl : decide (args.length ≤ i_spec_l01Str.ntmps) = true)
    (h : den PG (finQ i_spec_l01Str.res args Φ) [.code i_spec_l01Str.body] .norm (st i_spec_l01Str.ntmps (pairs 0 (entry 0 args).1) (entry 0 args).2)) : ∃ res outs, Ret PG f_spec_l01Str args res outs ∧ Φ res outs :=
  (comesP_of hl h).elim fun res h => h.elim fun outs h => ⟨res, outs, r_spec_l01Str ok h.1, h.2⟩

def i_spec_l01Bytes : IFn := ⟨23, [.t 4],
 .seq (.reg [⟨some 4, none, .mov (.c (.z 1))⟩]) <|
 .seq (.reg [⟨some 7, none, .bslice 1 0 (.int .u8 0) []⟩,
   ⟨some 5, none, .mov (.t 7)⟩]) <|
 .seq (.seq (.reg [⟨some 8, none, .mov (.t 0)⟩,
    ⟨some 9, none, .mov (.t 1)⟩,
    ⟨some 10, none, .bin .add (.t 9) (.c (.int .i64 1))⟩,
    ⟨some 11, none, .call (.f f_spec_l01Below) [.t 8, .t 10] true false⟩,
    ⟨some 6, none, .mov (.t 11)⟩]) <|
  .blk 0 (
   .loop [0, 5, 6] [] (
    .seq (.seq (.reg [⟨some 12, none, .mov (.t 6)⟩,
       ⟨some 13, none, .bin .gtr (.t 12) (.c (.int .i64 0))⟩]) <|
     .ite (.t 13) (
      .skip) (
      .exit 0)) <|
    .seq (.blk 1 (
      .reg [⟨some 16, none, .mov (.t 5)⟩,
       ⟨some 17, none, .mov (.t 0)⟩,
       ⟨some 18, none, .call (.f f_spec_l01Byte) [.t 17] true false⟩,
       ⟨some 19, none, .conv (.int .u8) (.t 18)⟩,
       ⟨some 20, none, .bslice 1 1 (.int .u8 0) [(0, .t 19)]⟩,
       ⟨some 21, none, .app 1 1 (.t 16) (.t 20)⟩,
       ⟨some 5, none, .mov (.t 21)⟩])) <|
    .reg [⟨some 14, none, .mov (.t 6)⟩,
     ⟨some 15, none, .bin .sub (.t 14) (.c (.int .i64 1))⟩,
     ⟨some 6, none, .mov (.t 15)⟩]))) <|
 .seq (.reg [⟨some 22, none, .mov (.t 5)⟩,
   ⟨some 4, none, .mov (.t 22)⟩]) <|
 .ret⟩
theorem r_spec_l01Bytes {args : List A} {res : R} {outs : List (List O)} (ok : okArgs args = true) (h : Comes PG i_spec_l01Bytes args res outs) : Ret PG f_spec_l01Bytes args res outs :=
  ret_of hmix Tryz.func164 (by kernel_rfl) ok h
theorem p_spec_l01Bytes {args : List A} {Φ : R → List (List O) → Prop} (ok : okArgs args = true) (hl : decide (args.length ≤ i_spec_l01Bytes.ntmps) = true)
    (h : den PG (finQ i_spec_l01Bytes.res args Φ) [.code i_spec_l01Bytes.body] .norm (st i_spec_l01Bytes.ntmps (pairs 0 (entry 0 args).1) (entry 0 args).2)) : ∃ res outs, Ret PG f_spec_l01Bytes args res outs ∧ Φ res outs :=
  (comesP_of hl h).elim fun res h => h.elim fun outs h => ⟨res, outs, r_spec_l01Bytes ok h.1, h.2⟩

def i_spec_l11Mtis : IFn := ⟨2, [.t 0],
 .seq (.reg [⟨some 0, none, .mov (.c (.z 1))⟩]) <|
 .seq (.reg [⟨some 1, none, .bslice 1 9 (.str []) [(0, .c (.str [])), (1, .c (.str [48, 49, 48, 48])), (2, .c (.str [48, 49, 48, 48])), (3, .c (.str [48, 50, 50, 48])), (4, .c (.str [48, 50, 50, 48])), (5, .c (.str [48, 50, 50, 48])), (6, .c (.str [48, 50, 48, 48])), (7, .c (.str [48, 49, 48, 48])), (8, .c (.str [48, 50, 48, 48]))]⟩,
   ⟨some 0, none, .mov (.t 1)⟩]) <|
 .ret⟩
theorem r_spec_l11Mtis {args : List A} {res : R} {outs : List (List O)} (ok : okArgs args = true) (h : Comes PG i_spec_l11Mtis args res outs) : Ret PG f_spec_l11Mtis args res outs :=
  ret_of hmix Tryz.func165 (by kernel_rfl) ok h
theorem p_spec_l11Mtis {args : List A} {Φ : R → List (List O) → Prop} (ok : okArgs args = true) (hl : decide (args.length ≤ i_spec_l11Mtis.ntmps) = true)
    (h : den PG (finQ i_spec_l11Mtis.res args Φ) [.code i_spec_l11Mtis.body] .norm (st i_spec_l11Mtis.ntmps (pairs 0 (entry 0 args).1) (entry 0 args).2)) : ∃ res outs, Ret PG f_spec_l11Mtis args res outs ∧ Φ res outs :=
  (comesP_of hl h).elim fun res h => h.elim fun outs h => ⟨res, outs, r_spec_l11Mtis ok h.1, h.2⟩

def i_impl_Luhn : IFn := ⟨38, [.t 2],
 .seq (.reg [⟨some 2, none, .mov (.c (.int .i64 0))⟩]) <|
 .seq (.seq (.reg [⟨some 7, none, .mov (.t 0)⟩,
    ⟨some 8, none, .call (.f f_impl_Digits) [.t 7] false false⟩,
    ⟨some 9, none, .un .not (.t 8)⟩]) <|
  .ite (.t 9) (
   .seq (.reg [⟨some 2, none, .mov (.c (.int .i64 (-1)))⟩]) <|
   .ret) (
   .skip)) <|
 .seq (.reg [⟨some 3, none, .mov (.c (.int .i64 0))⟩,
   ⟨some 4, none, .mov (.c (.bool true))⟩]) <|
 .seq (.seq (.reg [⟨some 10, none, .mov (.t 0)⟩,
    ⟨some 11, none, .len true (.t 10)⟩,
    ⟨some 12, none, .bin .sub (.t 11) (.c (.int .i64 1))⟩,
    ⟨some 5, none, .mov (.t 12)⟩]) <|
  .blk 0 (
   .loop [0, 3, 4, 5] [] (
    .seq (.seq (.reg [⟨some 13, none, .mov (.t 5)⟩,
       ⟨some 14, none, .bin .geq (.t 13) (.c (.int .i64 0))⟩]) <|
     .ite (.t 14) (
      .skip) (
      .exit 0)) <|
    .seq (.blk 1 (
      .seq (.reg [⟨some 17, none, .mov (.t 0)⟩,
        ⟨some 18, none, .mov (.t 5)⟩,
        ⟨some 19, none, .index (.t 17) (.t 18)⟩,
        ⟨some 20, none, .bin .sub (.t 19) (.c (.int .u8 48))⟩,
        ⟨some 21, none, .conv (.int .i64) (.t 20)⟩,
        ⟨some 6, none, .mov (.t 21)⟩]) <|
      .seq (.seq (.reg [⟨some 22, none, .mov (.t 4)⟩]) <|
       .ite (.t 22) (
        .seq (.reg [⟨some 23, none, .mov (.t 6)⟩,
          ⟨some 24, none, .bin .mul (.t 23) (.c (.int .i64 2))⟩,
          ⟨some 6, none, .mov (.t 24)⟩]) <|
        .seq (.reg [⟨some 25, none, .mov (.t 6)⟩,
          ⟨some 26, none, .bin .gtr (.t 25) (.c (.int .i64 9))⟩]) <|
        .ite (.t 26) (
         .reg [⟨some 27, none, .mov (.t 6)⟩,
          ⟨some 28, none, .bin .sub (.t 27) (.c (.int .i64 9))⟩,
          ⟨some 6, none, .mov (.t 28)⟩]) (
         .skip)) (
        .skip)) <|
      .seq (.reg [⟨some 29, none, .mov (.t 3)⟩,
        ⟨some 30, none, .mov (.t 6)⟩,
        ⟨some 31, none, .bin .add (.t 29) (.t 30)⟩,
        ⟨some 3, none, .mov (.t 31)⟩]) <|
      .reg [⟨some 32, none, .mov (.t 4)⟩,
       ⟨some 33, none, .un .not (.t 32)⟩,
       ⟨some 4, none, .mov (.t 33)⟩])) <|
    .reg [⟨some 15, none, .mov (.t 5)⟩,
     ⟨some 16, none, .bin .sub (.t 15) (.c (.int .i64 1))⟩,
     ⟨some 5, none, .mov (.t 16)⟩]))) <|
 .seq (.reg [⟨some 34, none, .mov (.t 3)⟩,
   ⟨some 35, none, .bin .rem (.t 34) (.c (.int .i64 10))⟩,
   ⟨some 36, none, .bin .sub (.c (.int .i64 10)) (.t 35)⟩,
   ⟨some 37, none, .bin .rem (.t 36) (.c (.int .i64 10))⟩,
   ⟨some 2, none, .mov (.t 37)⟩]) <|
 .ret⟩
theorem r_impl_Luhn {args : List A} {res : R} {outs : List (List O)} (ok : okArgs args = true) (h : Comes PG i_impl_Luhn args res outs) : Ret PG f_impl_Luhn args res outs :=
  ret_of hmix Tryz.func166 (by kernel_rfl) ok h
theorem p_impl_Luhn {args : List A} {Φ : R → List (List O) → Prop} (ok : okArgs args = true) (hl : decide (args.length ≤ i_impl_Luhn.ntmps) = true)
    (h : den PG (finQ i_impl_Luhn.res args Φ) [.code i_impl_Luhn.body] .norm (st i_impl_Luhn.ntmps (pairs 0 (entry 0 args).1) (entry 0 args).2)) : ∃ res outs, Ret PG f_impl_Luhn args res outs ∧ Φ res outs :=
  (comesP_of hl h).elim fun res h => h.elim fun outs h => ⟨res, outs, r_impl_Luhn ok h.1, h.2⟩

def i_impl_fieldRows : IFn := ⟨18, [.t 0],
 .seq (.reg [⟨some 0, none, .mov (.c (.z 3))⟩]) <|
 .seq (.reg [⟨some 1, none, .build [.int .i64 0, .int .i64 0, .int .i64 0] [(0, 1, .c (.int .i64 2)), (1, 1, .c (.int .i64 3)), (2, 1, .c (.int .i64 19))]⟩,
   ⟨some 2, none, .build [.int .i64 0, .int .i64 0, .int .i64 0] [(0, 1, .c (.int .i64 3)), (1, 1, .c (.int .i64 1)), (2, 1, .c (.int .i64 6))]⟩,
   ⟨some 3, none, .build [.int .i64 0, .int .i64 0, .int .i64 0] [(0, 1, .c (.int .i64 4)), (1, 1, .c (.int .i64 1)), (2, 1, .c (.int .i64 12))]⟩,
   ⟨some 4, none, .build [.int .i64 0, .int .i64 0, .int .i64 0] [(0, 1, .c (.int .i64 7)), (1, 1, .c (.int .i64 1)), (2, 1, .c (.int .i64 10))]⟩,
   ⟨some 5, none, .build [.int .i64 0, .int .i64 0, .int .i64 0] [(0, 1, .c (.int .i64 11)), (1, 1, .c (.int .i64 1)), (2, 1, .c (.int .i64 6))]⟩,
   ⟨some 6, none, .build [.int .i64 0, .int .i64 0, .int .i64 0] [(0, 1, .c (.int .i64 14)), (1, 1, .c (.int .i64 1)), (2, 1, .c (.int .i64 4))]⟩,
   ⟨some 7, none, .build [.int .i64 0, .int .i64 0, .int .i64 0] [(0, 1, .c (.int .i64 37)), (1, 1, .c (.int .i64 2)), (2, 1, .c (.int .i64 12))]⟩,
   ⟨some 8, none, .build [.int .i64 0, .int .i64 0, .int .i64 0] [(0, 1, .c (.int .i64 38)), (1, 1, .c (.int .i64 2)), (2, 1, .c (.int .i64 6))]⟩,
   ⟨some 9, none, .build [.int .i64 0, .int .i64 0, .int .i64 0] [(0, 1, .c (.int .i64 39)), (1, 1, .c (.int .i64 2)), (2, 1, .c (.int .i64 2))]⟩,
   ⟨some 10, none, .build [.int .i64 0, .int .i64 0, .int .i64 0] [(0, 1, .c (.int .i64 41)), (1, 1, .c (.int .i64 2)), (2, 1, .c (.int .i64 8))]⟩,
   ⟨some 11, none, .build [.int .i64 0, .int .i64 0, .int .i64 0] [(0, 1, .c (.int .i64 48)), (1, 1, .c (.int .i64 5)), (2, 1, .c (.int .i64 60))]⟩,
   ⟨some 12, none, .build [.int .i64 0, .int .i64 0, .int .i64 0] [(0, 1, .c (.int .i64 49)), (1, 1, .c (.int .i64 1)), (2, 1, .c (.int .i64 3))]⟩,
   ⟨some 13, none, .build [.int .i64 0, .int .i64 0, .int .i64 0] [(0, 1, .c (.int .i64 54)), (1, 1, .c (.int .i64 5)), (2, 1, .c (.int .i64 60))]⟩,
   ⟨some 14, none, .build [.int .i64 0, .int .i64 0, .int .i64 0] [(0, 1, .c (.int .i64 95)), (1, 1, .c (.int .i64 2)), (2, 1, .c (.int .i64 12))]⟩,
   ⟨some 15, none, .build [.int .i64 0, .int .i64 0, .int .i64 0] [(0, 1, .c (.int .i64 102)), (1, 1, .c (.int .i64 4)), (2, 1, .c (.int .i64 20))]⟩,
   ⟨some 16, none, .build [.int .i64 0, .int .i64 0, .int .i64 0] [(0, 1, .c (.int .i64 103)), (1, 1, .c (.int .i64 4)), (2, 1, .c (.int .i64 20))]⟩,
   ⟨some 17, none, .bslice 3 16 (.agg [.int .i64 0, .int .i64 0, .int .i64 0]) [(0, .t 1), (1, .t 2), (2, .t 3), (3, .t 4), (4, .t 5), (5, .t 6), (6, .t 7), (7, .t 8), (8, .t 9), (9, .t 10), (10, .t 11), (11, .t 12), (12, .t 13), (13, .t 14), (14, .t 15), (15, .t 16)]⟩,
   ⟨some 0, none, .mov (.t 17)⟩]) <|
 .ret⟩
theorem r_impl_fieldRows {args : List A} {res : R} {outs : List (List O)} (ok : okArgs args = true) (h : Comes PG i_impl_fieldRows args res outs) : Ret PG f_impl_fieldRows args res outs :=
  ret_of hmix Tryz.func173 (by kernel_rfl) ok h
theorem p_impl_fieldRows {args : List A} {Φ : R → List (List O) → Prop} (ok : okArgs args = true) (hl : decide (args.length ≤ i_impl_fieldRows.ntmps) = true)
    (h : den PG (finQ i_impl_fieldRows.res args Φ) [.code i_impl_fieldRows.body] .norm (st i_impl_fieldRows.ntmps (pairs 0 (entry 0 args).1) (entry 0 args).2)) : ∃ res outs, Ret PG f_impl_fieldRows args res outs ∧ Φ res outs :=
  (comesP_of hl h).elim fun res h => h.elim fun outs h => ⟨res, outs, r_impl_fieldRows ok h.1, h.2⟩

def i_impl_HoldOk : IFn := ⟨16, [.t 2],
 .seq (.reg [⟨some 1, none, .box 3 (.t 0)⟩,
   ⟨some 2, none, .mov (.c (.bool false))⟩]) <|
 .seq (.reg [⟨some 3, none, .faddr 0 (.t 1)⟩,
   ⟨some 4, none, .load false 1 (.t 3)⟩,
   ⟨some 5, none, .call (.f f_impl_HoldIdOk) [.t 4] false false⟩,
   ⟨some 6, none, .mov (.t 5)⟩,
   ⟨some 7, some (6, true), .faddr 1 (.t 1)⟩,
   ⟨some 8, some (6, true), .load false 1 (.t 7)⟩,
   ⟨some 9, some (6, true), .call (.f f_impl_within) [.t 8, .c (.int .i64 1), .c (.int .i64 9007199254740992)] false false⟩,
   ⟨some 10, none, .pick (.t 6) (.t 9) (.c (.bool false))⟩,
   ⟨some 11, none, .mov (.t 10)⟩,
   ⟨some 12, some (11, true), .faddr 2 (.t 1)⟩,
   ⟨some 13, some (11, true), .load false 1 (.t 12)⟩,
   ⟨some 14, some (11, true), .call (.f f_impl_isTime) [.t 13] false false⟩,
   ⟨some 15, none, .pick (.t 11) (.t 14) (.c (.bool false))⟩,
   ⟨some 2, none, .mov (.t 15)⟩]) <|
 .ret⟩
theorem r_impl_HoldOk {args : List A} {res : R} {outs : List (List O)} (ok : okArgs args = true) (h : Comes PG i_impl_HoldOk args res outs) : Ret PG f_impl_HoldOk args res outs :=
  ret_of hmix Tryz.func174 (by kernel_rfl) ok h
theorem p_impl_HoldOk {args : List A} {Φ : R → List (List O) → Prop} (ok : okArgs args = true) (hl : decide (args.length ≤ i_impl_HoldOk.ntmps) = true)
    (h : den PG (finQ i_impl_HoldOk.res args Φ) [.code i_impl_HoldOk.body] .norm (st i_impl_HoldOk.ntmps (pairs 0 (entry 0 args).1) (entry 0 args).2)) : ∃ res outs, Ret PG f_impl_HoldOk args res outs ∧ Φ res outs :=
  (comesP_of hl h).elim fun res h => h.elim fun outs h => ⟨res, outs, r_impl_HoldOk ok h.1, h.2⟩

def i_slices_Concat_int_int : IFn := ⟨36, [.t 2],
 .seq (.reg [⟨some 2, none, .mov (.c (.z 1))⟩]) <|
 .seq (.reg [⟨some 3, none, .mov (.c (.int .i64 0))⟩]) <|
 .seq (.seq (.reg [⟨some 9, none, .mov (.t 0)⟩,
    ⟨some 10, none, .len false (.t 9)⟩,
    ⟨some 11, none, .mov (.c (.int .i64 0))⟩]) <|
  .blk 0 (
   .loop [0, 3, 9, 10, 11] [] (
    .seq (.reg [⟨some 12, none, .bin .lss (.t 11) (.t 10)⟩]) <|
    .seq (.ite (.t 12) (
      .skip) (
      .exit 0)) <|
    .seq (.blk 1 (
      .seq (.reg [⟨some 13, none, .iaddr 1 (.t 9) (.t 11)⟩,
        ⟨some 14, none, .load false 1 (.t 13)⟩,
        ⟨some 5, none, .mov (.t 14)⟩]) <|
      .seq (.reg [⟨some 15, none, .mov (.t 3)⟩,
        ⟨some 16, none, .mov (.t 5)⟩,
        ⟨some 17, none, .len false (.t 16)⟩,
        ⟨some 18, none, .bin .add (.t 15) (.t 17)⟩,
        ⟨some 3, none, .mov (.t 18)⟩]) <|
      .seq (.reg [⟨some 19, none, .mov (.t 3)⟩,
        ⟨some 20, none, .bin .lss (.t 19) (.c (.int .i64 0))⟩]) <|
      .ite (.t 20) (
       .reg [⟨some 21, none, .dead⟩,
        ⟨none, none, .dead⟩]) (
       .skip))) <|
    .reg [⟨some 22, none, .bin .add (.t 11) (.c (.int .i64 1))⟩,
     ⟨some 11, none, .mov (.t 22)⟩]))) <|
 .seq (.reg [⟨some 23, none, .mov (.t 3)⟩,
   ⟨some 24, none, .call (.f f_slices_Grow_int_int) [.c (.z 1), .t 23] true true⟩,
   ⟨some 6, none, .mov (.t 24)⟩]) <|
 .seq (.seq (.reg [⟨some 25, none, .mov (.t 0)⟩,
    ⟨some 26, none, .len false (.t 25)⟩,
    ⟨some 27, none, .mov (.c (.int .i64 0))⟩]) <|
  .blk 2 (
   .loop [6, 25, 26, 27] [] (
    .seq (.reg [⟨some 28, none, .bin .lss (.t 27) (.t 26)⟩]) <|
    .seq (.ite (.t 28) (
      .skip) (
      .exit 2)) <|
    .seq (.blk 3 (
      .seq (.reg [⟨some 29, none, .iaddr 1 (.t 25) (.t 27)⟩,
        ⟨some 30, none, .load false 1 (.t 29)⟩,
        ⟨some 8, none, .mov (.t 30)⟩]) <|
      .reg [⟨some 31, none, .mov (.t 6)⟩,
       ⟨some 32, none, .mov (.t 8)⟩,
       ⟨some 33, none, .app 1 8 (.t 31) (.t 32)⟩,
       ⟨some 6, none, .mov (.t 33)⟩])) <|
    .reg [⟨some 34, none, .bin .add (.t 27) (.c (.int .i64 1))⟩,
     ⟨some 27, none, .mov (.t 34)⟩]))) <|
 .seq (.reg [⟨some 35, none, .mov (.t 6)⟩,
   ⟨some 2, none, .mov (.t 35)⟩]) <|
 .ret⟩
theorem r_slices_Concat_int_int {args : List A} {res : R} {outs : List (List O)} (ok : okArgs args = true) (h : Comes PG i_slices_Concat_int_int args res outs) : Ret PG f_slices_Concat_int_int args res outs :=
  ret_of hmix Tryz.func175 (by kernel_rfl) ok h
theorem p_slices_Concat_int_int {args : List A} {Φ : R → List (List O) → Prop} (ok : okArgs args = true) (hl : decide (args.length ≤ i_slices_Concat_int_int.ntmps) = true)
    (h : den PG (finQ i_slices_Concat_int_int.res args Φ) [.code i_slices_Concat_int_int.body] .norm (st i_slices_Concat_int_int.ntmps (pairs 0 (entry 0 args).1) (entry 0 args).2)) : ∃ res outs, Ret PG f_slices_Concat_int_int args res outs ∧ Φ res outs :=
  (comesP_of hl h).elim fun res h => h.elim fun outs h => ⟨res, outs, r_slices_Concat_int_int ok h.1, h.2⟩

def i_slices_Clone_int_int : IFn := ⟨8, [.t 2],
 .seq (.reg [⟨some 2, none, .mov (.c (.z 1))⟩]) <|
 .seq (.seq (.reg [⟨some 3, none, .mov (.t 0)⟩,
    ⟨some 4, none, .isnil 2 false (.t 3)⟩]) <|
  .ite (.t 4) (
   .seq (.reg [⟨some 2, none, .mov (.c (.z 1))⟩]) <|
   .ret) (
   .skip)) <|
 .seq (.reg [⟨some 5, none, .bslice 1 0 (.int .i64 0) []⟩,
   ⟨some 6, none, .mov (.t 0)⟩,
   ⟨some 7, none, .app 1 8 (.t 5) (.t 6)⟩,
   ⟨some 2, none, .mov (.t 7)⟩]) <|
 .ret⟩
theorem r_slices_Clone_int_int {args : List A} {res : R} {outs : List (List O)} (ok : okArgs args = true) (h : Comes PG i_slices_Clone_int_int args res outs) : Ret PG f_slices_Clone_int_int args res outs :=
  ret_of hmix Tryz.func176 (by kernel_rfl) ok h
theorem p_slices_Clone_int_int {args : List A} {Φ : R → List (List O) → Prop} (ok : okArgs args = true) (hl : decide (args.length ≤ i_slices_Clone_int_int.ntmps) = true)
    (h : den PG (finQ i_slices_Clone_int_int.res args Φ) [.code i_slices_Clone_int_int.body] .norm (st i_slices_Clone_int_int.ntmps (pairs 0 (entry 0 args).1) (entry 0 args).2)) : ∃ res outs, Ret PG f_slices_Clone_int_int args res outs ∧ Φ res outs :=
  (comesP_of hl h).elim fun res h => h.elim fun outs h => ⟨res, outs, r_slices_Clone_int_int ok h.1, h.2⟩


end
end Go.AW
open Go.Proofs
namespace Go.AW
set_option maxRecDepth 10000
noncomputable section
def i_spec_LuhnOk : IFn := ⟨25, [.t 2],
 .seq (.reg [⟨some 2, none, .mov (.c (.bool false))⟩]) <|
 .seq (.seq (.reg [⟨some 3, none, .mov (.t 0)⟩,
    ⟨some 4, none, .call (.f f_spec_Digits) [.t 3] false false⟩,
    ⟨some 5, none, .un .not (.t 4)⟩,
    ⟨some 6, none, .mov (.t 5)⟩,
    ⟨some 7, some (6, false), .mov (.t 0)⟩,
    ⟨some 8, some (6, false), .len true (.t 7)⟩,
    ⟨some 9, some (6, false), .bin .lss (.t 8) (.c (.int .i64 2))⟩,
    ⟨some 10, none, .pick (.t 6) (.c (.bool true)) (.t 9)⟩]) <|
  .ite (.t 10) (
   .seq (.reg [⟨some 2, none, .mov (.c (.bool false))⟩]) <|
   .ret) (
   .skip)) <|
 .seq (.draw [⟨some 11, none, .mov (.t 0)⟩,
   ⟨some 12, none, .mov (.t 0)⟩,
   ⟨some 13, none, .len true (.t 12)⟩,
   ⟨some 14, none, .bin .sub (.t 13) (.c (.int .i64 1))⟩,
   ⟨some 15, none, .sstr (.t 11) none (some (.t 14))⟩,
   ⟨some 16, none, .call (.f f_spec_Luhn) [.t 15] false false⟩,
   ⟨some 17, none, .mov (.t 0)⟩,
   ⟨some 18, none, .mov (.t 0)⟩,
   ⟨some 19, none, .len true (.t 18)⟩,
   ⟨some 20, none, .bin .sub (.t 19) (.c (.int .i64 1))⟩,
   ⟨some 21, none, .index (.t 17) (.t 20)⟩,
   ⟨some 22, none, .conv (.int .i64) (.t 21)⟩,
   ⟨some 23, none, .bin .sub (.t 22) (.c (.int .i64 48))⟩,
   ⟨some 24, none, .bin .eql (.t 16) (.t 23)⟩,
   ⟨some 2, none, .mov (.t 24)⟩] [(0, 1), (0, 2), (0, 3), (0, 6), (1, 6), (2, 6), (3, 6), (4, 6), (5, 6), (0, 7), (1, 7), (2, 7), (3, 7), (4, 7), (5, 7), (6, 7), (0, 8), (1, 8), (2, 8), (3, 8), (4, 8), (5, 8), (6, 8), (0, 9), (1, 9), (2, 9), (3, 9), (4, 9), (5, 9), (6, 9), (0, 10), (1, 10), (2, 10), (3, 10), (4, 10), (5, 10), (0, 11), (1, 11), (2, 11), (3, 11), (4, 11), (5, 11), (0, 12), (1, 12), (2, 12), (3, 12), (4, 12), (5, 12)]) <|
 .ret⟩
theorem r_spec_LuhnOk {args : List A} {res : R} {outs : List (List O)} (ok : okArgs args = true) (h : Comes PG i_spec_LuhnOk args res outs) : Ret PG f_spec_LuhnOk args res outs :=
  ret_of hmix Tryz.func193 (by kernel_rfl) ok h
theorem p_spec_LuhnOk {args : List A} {Φ : R → List (List O) → Prop} (ok : okArgs args = true) (hl : decide (args.length ≤ i_spec_LuhnOk.ntmps) = true)
    (h : den PG (finQ i_spec_LuhnOk.res args Φ) [.code i_spec_LuhnOk.body] .norm (st i_spec_LuhnOk.ntmps (pairs 0 (entry 0 args).1) (entry 0 args).2)) : ∃ res outs, Ret PG f_spec_LuhnOk args res outs ∧ Φ res outs :=
  (comesP_of hl h).elim fun res h => h.elim fun outs h => ⟨res, outs, r_spec_LuhnOk ok h.1, h.2⟩

def i_spec_HoldOk : IFn := ⟨16, [.t 2],
 .seq (.reg [⟨some 1, none, .box 3 (.t 0)⟩,
   ⟨some 2, none, .mov (.c (.bool false))⟩]) <|
 .seq (.reg [⟨some 3, none, .faddr 0 (.t 1)⟩,
   ⟨some 4, none, .load false 1 (.t 3)⟩,
   ⟨some 5, none, .call (.f f_spec_HoldIdOk) [.t 4] false false⟩,
   ⟨some 6, none, .mov (.t 5)⟩,
   ⟨some 7, some (6, true), .faddr 1 (.t 1)⟩,
   ⟨some 8, some (6, true), .load false 1 (.t 7)⟩,
   ⟨some 9, some (6, true), .call (.f f_spec_l01In) [.t 8, .c (.int .i64 1), .c (.int .i64 9007199254740992)] false false⟩,
   ⟨some 10, none, .pick (.t 6) (.t 9) (.c (.bool false))⟩,
   ⟨some 11, none, .mov (.t 10)⟩,
   ⟨some 12, some (11, true), .faddr 2 (.t 1)⟩,
   ⟨some 13, some (11, true), .load false 1 (.t 12)⟩,
   ⟨some 14, some (11, true), .call (.f f_spec_l06Time) [.t 13] false false⟩,
   ⟨some 15, none, .pick (.t 11) (.t 14) (.c (.bool false))⟩,
   ⟨some 2, none, .mov (.t 15)⟩]) <|
 .ret⟩
theorem r_spec_HoldOk {args : List A} {res : R} {outs : List (List O)} (ok : okArgs args = true) (h : Comes PG i_spec_HoldOk args res outs) : Ret PG f_spec_HoldOk args res outs :=
  ret_of hmix Tryz.func194 (by kernel_rfl) ok h
theorem p_spec_HoldOk {args : List A} {Φ : R → List (List O) → Prop} (ok : okArgs args = true) (hl : decide (args.length ≤ i_spec_HoldOk.ntmps) = true)
    (h : den PG (finQ i_spec_HoldOk.res args Φ) [.code i_spec_HoldOk.body] .norm (st i_spec_HoldOk.ntmps (pairs 0 (entry 0 args).1) (entry 0 args).2)) : ∃ res outs, Ret PG f_spec_HoldOk args res outs ∧ Φ res outs :=
  (comesP_of hl h).elim fun res h => h.elim fun outs h => ⟨res, outs, r_spec_HoldOk ok h.1, h.2⟩

def i_spec_SlotOk : IFn := ⟨29, [.t 2],
 .seq (.reg [⟨some 1, none, .box 3 (.t 0)⟩,
   ⟨some 2, none, .mov (.c (.bool false))⟩]) <|
 .seq (.reg [⟨some 3, none, .faddr 0 (.t 1)⟩,
   ⟨some 4, none, .load false 1 (.t 3)⟩,
   ⟨some 5, none, .call (.f f_spec_Digits) [.t 4] false false⟩,
   ⟨some 6, none, .mov (.t 5)⟩,
   ⟨some 7, some (6, true), .faddr 0 (.t 1)⟩,
   ⟨some 8, some (6, true), .load false 1 (.t 7)⟩,
   ⟨some 9, some (6, true), .len true (.t 8)⟩,
   ⟨some 10, some (6, true), .bin .eql (.t 9) (.c (.int .i64 6))⟩,
   ⟨some 11, none, .pick (.t 6) (.t 10) (.c (.bool false))⟩,
   ⟨some 12, none, .mov (.t 11)⟩,
   ⟨some 13, some (12, true), .faddr 1 (.t 1)⟩,
   ⟨some 14, some (12, true), .load false 1 (.t 13)⟩,
   ⟨some 15, some (12, true), .call (.f f_spec_Digits) [.t 14] false false⟩,
   ⟨some 16, none, .pick (.t 12) (.t 15) (.c (.bool false))⟩,
   ⟨some 17, none, .mov (.t 16)⟩,
   ⟨some 18, some (17, true), .faddr 1 (.t 1)⟩,
   ⟨some 19, some (17, true), .load false 1 (.t 18)⟩,
   ⟨some 20, some (17, true), .len true (.t 19)⟩,
   ⟨some 21, some (17, true), .bin .eql (.t 20) (.c (.int .i64 4))⟩,
   ⟨some 22, none, .pick (.t 17) (.t 21) (.c (.bool false))⟩,
   ⟨some 23, none, .mov (.t 22)⟩,
   ⟨some 24, some (23, true), .faddr 2 (.t 1)⟩,
   ⟨some 25, some (23, true), .load false 1 (.t 24)⟩,
   ⟨some 26, some (23, true), .len false (.t 25)⟩,
   ⟨some 27, some (23, true), .call (.f f_spec_l01In) [.t 26, .c (.int .i64 1), .c (.int .i64 200)] false false⟩,
   ⟨some 28, none, .pick (.t 23) (.t 27) (.c (.bool false))⟩,
   ⟨some 2, none, .mov (.t 28)⟩]) <|
 .ret⟩
theorem r_spec_SlotOk {args : List A} {res : R} {outs : List (List O)} (ok : okArgs args = true) (h : Comes PG i_spec_SlotOk args res outs) : Ret PG f_spec_SlotOk args res outs :=
  ret_of hmix Tryz.func195 (by kernel_rfl) ok h
theorem p_spec_SlotOk {args : List A} {Φ : R → List (List O) → Prop} (ok : okArgs args = true) (hl : decide (args.length ≤ i_spec_SlotOk.ntmps) = true)
    (h : den PG (finQ i_spec_SlotOk.res args Φ) [.code i_spec_SlotOk.body] .norm (st i_spec_SlotOk.ntmps (pairs 0 (entry 0 args).1) (entry 0 args).2)) : ∃ res outs, Ret PG f_spec_SlotOk args res outs ∧ Φ res outs :=
  (comesP_of hl h).elim fun res h => h.elim fun outs h => ⟨res, outs, r_spec_SlotOk ok h.1, h.2⟩

def i_slices_Grow_int_int : IFn := ⟨27, [.t 4],
 .seq (.reg [⟨some 4, none, .mov (.c (.z 1))⟩]) <|
 .seq (.seq (.reg [⟨some 5, none, .mov (.t 1)⟩,
    ⟨some 6, none, .bin .lss (.t 5) (.c (.int .i64 0))⟩]) <|
  .ite (.t 6) (
   .reg [⟨some 7, none, .dead⟩,
    ⟨none, none, .dead⟩]) (
   .skip)) <|
 .seq (.seq (.reg [⟨some 8, none, .mov (.t 1)⟩,
    ⟨some 9, none, .mov (.t 0)⟩,
    ⟨some 10, none, .cap (.t 9)⟩,
    ⟨some 11, none, .mov (.t 0)⟩,
    ⟨some 12, none, .len false (.t 11)⟩,
    ⟨some 13, none, .bin .sub (.t 10) (.t 12)⟩,
    ⟨some 14, none, .bin .sub (.t 8) (.t 13)⟩,
    ⟨some 1, none, .mov (.t 14)⟩]) <|
  .seq (.reg [⟨some 15, none, .mov (.t 1)⟩,
    ⟨some 16, none, .bin .gtr (.t 15) (.c (.int .i64 0))⟩]) <|
  .ite (.t 16) (
   .reg [⟨some 17, none, .mov (.t 0)⟩,
    ⟨some 18, none, .mov (.t 0)⟩,
    ⟨some 19, none, .cap (.t 18)⟩,
    ⟨some 20, none, .slice 1 (.t 17) none (some (.t 19))⟩,
    ⟨some 21, none, .mov (.t 1)⟩,
    ⟨some 22, none, .dead⟩,
    ⟨some 23, none, .mov (.t 0)⟩,
    ⟨some 24, none, .len false (.t 23)⟩,
    ⟨some 25, none, .slice 1 (.t 22) none (some (.t 24))⟩,
    ⟨some 0, none, .mov (.t 25)⟩]) (
   .skip)) <|
 .seq (.reg [⟨some 26, none, .mov (.t 0)⟩,
   ⟨some 4, none, .mov (.t 26)⟩]) <|
 .ret⟩
theorem r_slices_Grow_int_int {args : List A} {res : R} {outs : List (List O)} (ok : okArgs args = true) (h : Comes PG i_slices_Grow_int_int args res outs) : Ret PG f_slices_Grow_int_int args res outs :=
  ret_of hmix Tryz.func202 (by kernel_rfl) ok h
theorem p_slices_Grow_int_int {args : List A} {Φ : R → List (List O) → Prop} (ok : okArgs args = true) (hl : decide (args.length ≤ i_slices_Grow_int_int.ntmps) = true)
    (h : den PG (finQ i_slices_Grow_int_int.res args Φ) [.code i_slices_Grow_int_int.body] .norm (st i_slices_Grow_int_int.ntmps (pairs 0 (entry 0 args).1) (entry 0 args).2)) : ∃ res outs, Ret PG f_slices_Grow_int_int args res outs ∧ Φ res outs :=
  (comesP_of hl h).elim fun res h => h.elim fun outs h => ⟨res, outs, r_slices_Grow_int_int ok h.1, h.2⟩

def i_impl_total : IFn := ⟨17, [.t 2],
 .seq (.reg [⟨some 2, none, .mov (.c (.int .i64 0))⟩]) <|
 .seq (.reg [⟨some 3, none, .mov (.c (.int .i64 0))⟩]) <|
 .seq (.seq (.reg [⟨some 6, none, .mov (.t 0)⟩,
    ⟨some 7, none, .len false (.t 6)⟩,
    ⟨some 8, none, .mov (.c (.int .i64 0))⟩]) <|
  .blk 0 (
   .loop [3, 6, 7, 8] [] (
    .seq (.reg [⟨some 9, none, .bin .lss (.t 8) (.t 7)⟩]) <|
    .seq (.ite (.t 9) (
      .skip) (
      .exit 0)) <|
    .seq (.blk 1 (
      .seq (.reg [⟨some 10, none, .iaddr 1 (.t 6) (.t 8)⟩,
        ⟨some 11, none, .load false 1 (.t 10)⟩,
        ⟨some 5, none, .mov (.t 11)⟩]) <|
      .reg [⟨some 12, none, .mov (.t 3)⟩,
       ⟨some 13, none, .mov (.t 5)⟩,
       ⟨some 14, none, .call (.f f_impl_AddSat) [.t 12, .t 13] false false⟩,
       ⟨some 3, none, .mov (.t 14)⟩])) <|
    .reg [⟨some 15, none, .bin .add (.t 8) (.c (.int .i64 1))⟩,
     ⟨some 8, none, .mov (.t 15)⟩]))) <|
 .seq (.reg [⟨some 16, none, .mov (.t 3)⟩,
   ⟨some 2, none, .mov (.t 16)⟩]) <|
 .ret⟩
theorem r_impl_total {args : List A} {res : R} {outs : List (List O)} (ok : okArgs args = true) (h : Comes PG i_impl_total args res outs) : Ret PG f_impl_total args res outs :=
  ret_of hmix Tryz.func212 (by kernel_rfl) ok h
theorem p_impl_total {args : List A} {Φ : R → List (List O) → Prop} (ok : okArgs args = true) (hl : decide (args.length ≤ i_impl_total.ntmps) = true)
    (h : den PG (finQ i_impl_total.res args Φ) [.code i_impl_total.body] .norm (st i_impl_total.ntmps (pairs 0 (entry 0 args).1) (entry 0 args).2)) : ∃ res outs, Ret PG f_impl_total args res outs ∧ Φ res outs :=
  (comesP_of hl h).elim fun res h => h.elim fun outs h => ⟨res, outs, r_impl_total ok h.1, h.2⟩

def i_spec_Digits : IFn := ⟨23, [.t 2],
 .seq (.reg [⟨some 2, none, .mov (.c (.bool false))⟩]) <|
 .seq (.seq (.reg [⟨some 3, none, .mov (.c (.int .i64 0))⟩]) <|
  .blk 0 (
   .loop [0, 3] [] (
    .seq (.seq (.reg [⟨some 4, none, .mov (.t 3)⟩,
       ⟨some 5, none, .mov (.t 0)⟩,
       ⟨some 6, none, .len true (.t 5)⟩,
       ⟨some 7, none, .bin .lss (.t 4) (.t 6)⟩]) <|
     .ite (.t 7) (
      .skip) (
      .exit 0)) <|
    .seq (.blk 1 (
      .seq (.reg [⟨some 10, none, .mov (.t 0)⟩,
        ⟨some 11, none, .mov (.t 3)⟩,
        ⟨some 12, none, .index (.t 10) (.t 11)⟩,
        ⟨some 13, none, .bin .lss (.t 12) (.c (.int .u8 48))⟩,
        ⟨some 14, none, .mov (.t 13)⟩,
        ⟨some 15, some (14, false), .mov (.t 0)⟩,
        ⟨some 16, some (14, false), .mov (.t 3)⟩,
        ⟨some 17, some (14, false), .index (.t 15) (.t 16)⟩,
        ⟨some 18, some (14, false), .bin .gtr (.t 17) (.c (.int .u8 57))⟩,
        ⟨some 19, none, .pick (.t 14) (.c (.bool true)) (.t 18)⟩]) <|
      .ite (.t 19) (
       .seq (.reg [⟨some 2, none, .mov (.c (.bool false))⟩]) <|
       .ret) (
       .skip))) <|
    .reg [⟨some 8, none, .mov (.t 3)⟩,
     ⟨some 9, none, .bin .add (.t 8) (.c (.int .i64 1))⟩,
     ⟨some 3, none, .mov (.t 9)⟩]))) <|
 .seq (.reg [⟨some 20, none, .mov (.t 0)⟩,
   ⟨some 21, none, .len true (.t 20)⟩,
   ⟨some 22, none, .bin .gtr (.t 21) (.c (.int .i64 0))⟩,
   ⟨some 2, none, .mov (.t 22)⟩]) <|
 .ret⟩
theorem r_spec_Digits {args : List A} {res : R} {outs : List (List O)} (ok : okArgs args = true) (h : Comes PG i_spec_Digits args res outs) : Ret PG f_spec_Digits args res outs :=
  ret_of hmix Tryz.func216 (by kernel_rfl) ok h
theorem p_spec_Digits {args : List A} {Φ : R → List (List O) → Prop} (ok : okArgs args = true) (hl : decide (args.length ≤ i_spec_Digits.ntmps) = true)
    (h : den PG (finQ i_spec_Digits.res args Φ) [.code i_spec_Digits.body] .norm (st i_spec_Digits.ntmps (pairs 0 (entry 0 args).1) (entry 0 args).2)) : ∃ res outs, Ret PG f_spec_Digits args res outs ∧ Φ res outs :=
  (comesP_of hl h).elim fun res h => h.elim fun outs h => ⟨res, outs, r_spec_Digits ok h.1, h.2⟩

def i_spec_Luhn : IFn := ⟨38, [.t 2],
 .seq (.reg [⟨some 2, none, .mov (.c (.int .i64 0))⟩]) <|
 .seq (.seq (.reg [⟨some 7, none, .mov (.t 0)⟩,
    ⟨some 8, none, .call (.f f_spec_Digits) [.t 7] false false⟩,
    ⟨some 9, none, .un .not (.t 8)⟩]) <|
  .ite (.t 9) (
   .seq (.reg [⟨some 2, none, .mov (.c (.int .i64 (-1)))⟩]) <|
   .ret) (
   .skip)) <|
 .seq (.reg [⟨some 3, none, .mov (.c (.int .i64 0))⟩]) <|
 .seq (.reg [⟨some 4, none, .mov (.c (.bool true))⟩]) <|
 .seq (.seq (.reg [⟨some 10, none, .mov (.t 0)⟩,
    ⟨some 11, none, .len true (.t 10)⟩,
    ⟨some 12, none, .bin .sub (.t 11) (.c (.int .i64 1))⟩,
    ⟨some 5, none, .mov (.t 12)⟩]) <|
  .blk 0 (
   .loop [0, 3, 4, 5] [] (
    .seq (.seq (.reg [⟨some 13, none, .mov (.t 5)⟩,
       ⟨some 14, none, .bin .geq (.t 13) (.c (.int .i64 0))⟩]) <|
     .ite (.t 14) (
      .skip) (
      .exit 0)) <|
    .seq (.blk 1 (
      .seq (.reg [⟨some 17, none, .mov (.t 0)⟩,
        ⟨some 18, none, .mov (.t 5)⟩,
        ⟨some 19, none, .index (.t 17) (.t 18)⟩,
        ⟨some 20, none, .conv (.int .i64) (.t 19)⟩,
        ⟨some 21, none, .bin .sub (.t 20) (.c (.int .i64 48))⟩,
        ⟨some 6, none, .mov (.t 21)⟩]) <|
      .seq (.seq (.reg [⟨some 22, none, .mov (.t 4)⟩]) <|
       .ite (.t 22) (
        .seq (.reg [⟨some 23, none, .mov (.t 6)⟩,
          ⟨some 24, none, .bin .mul (.c (.int .i64 2)) (.t 23)⟩,
          ⟨some 6, none, .mov (.t 24)⟩]) <|
        .seq (.reg [⟨some 25, none, .mov (.t 6)⟩,
          ⟨some 26, none, .bin .gtr (.t 25) (.c (.int .i64 9))⟩]) <|
        .ite (.t 26) (
         .reg [⟨some 27, none, .mov (.t 6)⟩,
          ⟨some 28, none, .bin .sub (.t 27) (.c (.int .i64 9))⟩,
          ⟨some 6, none, .mov (.t 28)⟩]) (
         .skip)) (
        .skip)) <|
      .seq (.reg [⟨some 29, none, .mov (.t 3)⟩,
        ⟨some 30, none, .mov (.t 6)⟩,
        ⟨some 31, none, .bin .add (.t 29) (.t 30)⟩,
        ⟨some 32, none, .bin .rem (.t 31) (.c (.int .i64 10))⟩,
        ⟨some 3, none, .mov (.t 32)⟩]) <|
      .reg [⟨some 33, none, .mov (.t 4)⟩,
       ⟨some 34, none, .un .not (.t 33)⟩,
       ⟨some 4, none, .mov (.t 34)⟩])) <|
    .reg [⟨some 15, none, .mov (.t 5)⟩,
     ⟨some 16, none, .bin .sub (.t 15) (.c (.int .i64 1))⟩,
     ⟨some 5, none, .mov (.t 16)⟩]))) <|
 .seq (.reg [⟨some 35, none, .mov (.t 3)⟩,
   ⟨some 36, none, .bin .sub (.c (.int .i64 10)) (.t 35)⟩,
   ⟨some 37, none, .bin .rem (.t 36) (.c (.int .i64 10))⟩,
   ⟨some 2, none, .mov (.t 37)⟩]) <|
 .ret⟩
theorem r_spec_Luhn {args : List A} {res : R} {outs : List (List O)} (ok : okArgs args = true) (h : Comes PG i_spec_Luhn args res outs) : Ret PG f_spec_Luhn args res outs :=
  ret_of hmix Tryz.func217 (by kernel_rfl) ok h
theorem p_spec_Luhn {args : List A} {Φ : R → List (List O) → Prop} (ok : okArgs args = true) (hl : decide (args.length ≤ i_spec_Luhn.ntmps) = true)
    (h : den PG (finQ i_spec_Luhn.res args Φ) [.code i_spec_Luhn.body] .norm (st i_spec_Luhn.ntmps (pairs 0 (entry 0 args).1) (entry 0 args).2)) : ∃ res outs, Ret PG f_spec_Luhn args res outs ∧ Φ res outs :=
  (comesP_of hl h).elim fun res h => h.elim fun outs h => ⟨res, outs, r_spec_Luhn ok h.1, h.2⟩

def i_spec_HoldIdOk : IFn := ⟨35, [.t 2],
 .seq (.reg [⟨some 2, none, .mov (.c (.bool false))⟩]) <|
 .seq (.seq (.reg [⟨some 3, none, .mov (.c (.int .i64 0))⟩]) <|
  .blk 0 (
   .loop [0, 3] [] (
    .seq (.seq (.reg [⟨some 4, none, .mov (.t 3)⟩,
       ⟨some 5, none, .mov (.t 0)⟩,
       ⟨some 6, none, .len true (.t 5)⟩,
       ⟨some 7, none, .bin .lss (.t 4) (.t 6)⟩]) <|
     .ite (.t 7) (
      .skip) (
      .exit 0)) <|
    .seq (.blk 1 (
      .seq (.reg [⟨some 10, none, .mov (.t 0)⟩,
        ⟨some 11, none, .mov (.t 3)⟩,
        ⟨some 12, none, .index (.t 10) (.t 11)⟩,
        ⟨some 13, none, .bin .lss (.t 12) (.c (.int .u8 48))⟩,
        ⟨some 14, none, .mov (.t 13)⟩,
        ⟨some 15, some (14, false), .mov (.t 0)⟩,
        ⟨some 16, some (14, false), .mov (.t 3)⟩,
        ⟨some 17, some (14, false), .index (.t 15) (.t 16)⟩,
        ⟨some 18, some (14, false), .bin .gtr (.t 17) (.c (.int .u8 57))⟩,
        ⟨some 19, none, .pick (.t 14) (.c (.bool true)) (.t 18)⟩,
        ⟨some 20, none, .mov (.t 19)⟩,
        ⟨some 21, some (20, true), .mov (.t 0)⟩,
        ⟨some 22, some (20, true), .mov (.t 3)⟩,
        ⟨some 23, some (20, true), .index (.t 21) (.t 22)⟩,
        ⟨some 24, some (20, true), .bin .lss (.t 23) (.c (.int .u8 97))⟩,
        ⟨some 25, some (20, true), .mov (.t 24)⟩,
        ⟨some 26, some (25, false), .mov (.t 0)⟩,
        ⟨some 27, some (25, false), .mov (.t 3)⟩,
        ⟨some 28, some (25, false), .index (.t 26) (.t 27)⟩,
        ⟨some 29, some (25, false), .bin .gtr (.t 28) (.c (.int .u8 122))⟩,
        ⟨some 30, some (20, true), .pick (.t 25) (.c (.bool true)) (.t 29)⟩,
        ⟨some 31, none, .pick (.t 20) (.t 30) (.c (.bool false))⟩]) <|
      .ite (.t 31) (
       .seq (.reg [⟨some 2, none, .mov (.c (.bool false))⟩]) <|
       .ret) (
       .skip))) <|
    .reg [⟨some 8, none, .mov (.t 3)⟩,
     ⟨some 9, none, .bin .add (.t 8) (.c (.int .i64 1))⟩,
     ⟨some 3, none, .mov (.t 9)⟩]))) <|
 .seq (.reg [⟨some 32, none, .mov (.t 0)⟩,
   ⟨some 33, none, .len true (.t 32)⟩,
   ⟨some 34, none, .call (.f f_spec_l01In) [.t 33, .c (.int .i64 1), .c (.int .i64 6)] false false⟩,
   ⟨some 2, none, .mov (.t 34)⟩]) <|
 .ret⟩
theorem r_spec_HoldIdOk {args : List A} {res : R} {outs : List (List O)} (ok : okArgs args = true) (h : Comes PG i_spec_HoldIdOk args res outs) : Ret PG f_spec_HoldIdOk args res outs :=
  ret_of hmix Tryz.func218 (by kernel_rfl) ok h
theorem p_spec_HoldIdOk {args : List A} {Φ : R → List (List O) → Prop} (ok : okArgs args = true) (hl : decide (args.length ≤ i_spec_HoldIdOk.ntmps) = true)
    (h : den PG (finQ i_spec_HoldIdOk.res args Φ) [.code i_spec_HoldIdOk.body] .norm (st i_spec_HoldIdOk.ntmps (pairs 0 (entry 0 args).1) (entry 0 args).2)) : ∃ res outs, Ret PG f_spec_HoldIdOk args res outs ∧ Φ res outs :=
  (comesP_of hl h).elim fun res h => h.elim fun outs h => ⟨res, outs, r_spec_HoldIdOk ok h.1, h.2⟩


end
end Go.AW
