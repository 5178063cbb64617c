/- FACTS ON THE TYPES AND FUNCTIONS OF THE TRANSLATED PROGRAM, by kernel computation. Printed by facts.py. -/
import Derived.Test.YtmjfkjajedhciaaSxM
import Derived.Test.YtmjfkjajedhciaaProg
set_option linter.unusedVariables false
namespace Go.Proofs.Ytmjfkjajedhciaa
open Go Go.Sx Go.Proofs
theorem ag_0 : aggB Try.prog 0 = some false := by kernel_rfl
theorem sz_0 : sizeB Try.prog 0 = some 1 := by kernel_rfl
theorem ze_0 : zeroL Try.prog 0 = some [.tuple #[]] := by kernel_rfl
theorem ag_1 : aggB Try.prog 1 = some false := by kernel_rfl
theorem sz_1 : sizeB Try.prog 1 = some 1 := by kernel_rfl
theorem ze_1 : zeroL Try.prog 1 = some [.nilFunc] := by kernel_rfl
theorem ag_2 : aggB Try.prog 2 = some false := by kernel_rfl
theorem sz_2 : sizeB Try.prog 2 = some 1 := by kernel_rfl
theorem ze_2 : zeroL Try.prog 2 = some [.int .i64 (0)] := by kernel_rfl
theorem ag_3 : aggB Try.prog 3 = some false := by kernel_rfl
theorem sz_3 : sizeB Try.prog 3 = some 1 := by kernel_rfl
theorem ze_3 : zeroL Try.prog 3 = some [.int .i64 (0)] := by kernel_rfl
theorem ag_4 : aggB Try.prog 4 = some false := by kernel_rfl
theorem sz_4 : sizeB Try.prog 4 = some 1 := by kernel_rfl
theorem ze_4 : zeroL Try.prog 4 = some [.bool false] := by kernel_rfl
theorem ag_5 : aggB Try.prog 5 = some false := by kernel_rfl
theorem sz_5 : sizeB Try.prog 5 = some 1 := by kernel_rfl
theorem ze_5 : zeroL Try.prog 5 = some [.int .u8 (0)] := by kernel_rfl
theorem ag_6 : aggB Try.prog 6 = some false := by kernel_rfl
theorem sz_6 : sizeB Try.prog 6 = some 1 := by kernel_rfl
theorem ze_6 : zeroL Try.prog 6 = some [.int .u8 (0)] := by kernel_rfl
theorem ag_7 : aggB Try.prog 7 = some true := by kernel_rfl
theorem sz_7 : sizeB Try.prog 7 = some 4 := by kernel_rfl
theorem ze_7 : zeroL Try.prog 7 = some [.int .i64 (0), .int .i64 (0), .bool false, .int .u8 (0)] := by kernel_rfl
theorem zb_7 : ∃ z, zeroB Try.prog 7 = some (.agg z) := ⟨#[.int .i64 (0), .int .i64 (0), .bool false, .int .u8 (0)], by kernel_rfl⟩
theorem fi_7_0 : fieldIn Try.prog 7 0 = some (0, 2) := by kernel_rfl
theorem fo_7_0 : fieldOff Try.prog 7 0 = some 0 := by kernel_rfl
theorem fi_7_1 : fieldIn Try.prog 7 1 = some (1, 3) := by kernel_rfl
theorem fo_7_1 : fieldOff Try.prog 7 1 = some 1 := by kernel_rfl
theorem fi_7_2 : fieldIn Try.prog 7 2 = some (2, 4) := by kernel_rfl
theorem fo_7_2 : fieldOff Try.prog 7 2 = some 2 := by kernel_rfl
theorem fi_7_3 : fieldIn Try.prog 7 3 = some (3, 6) := by kernel_rfl
theorem fo_7_3 : fieldOff Try.prog 7 3 = some 3 := by kernel_rfl
theorem of_7 : offsB Try.prog 7 = some [(0, 1), (1, 1), (2, 1), (3, 1)] := by kernel_rfl
theorem ag_8 : aggB Try.prog 8 = some true := by kernel_rfl
theorem sz_8 : sizeB Try.prog 8 = some 4 := by kernel_rfl
theorem ze_8 : zeroL Try.prog 8 = some [.int .i64 (0), .int .i64 (0), .bool false, .int .u8 (0)] := by kernel_rfl
theorem zb_8 : ∃ z, zeroB Try.prog 8 = some (.agg z) := ⟨#[.int .i64 (0), .int .i64 (0), .bool false, .int .u8 (0)], by kernel_rfl⟩
theorem fi_8_0 : fieldIn Try.prog 8 0 = some (0, 2) := by kernel_rfl
theorem fo_8_0 : fieldOff Try.prog 8 0 = some 0 := by kernel_rfl
theorem fi_8_1 : fieldIn Try.prog 8 1 = some (1, 3) := by kernel_rfl
theorem fo_8_1 : fieldOff Try.prog 8 1 = some 1 := by kernel_rfl
theorem fi_8_2 : fieldIn Try.prog 8 2 = some (2, 4) := by kernel_rfl
theorem fo_8_2 : fieldOff Try.prog 8 2 = some 2 := by kernel_rfl
theorem fi_8_3 : fieldIn Try.prog 8 3 = some (3, 6) := by kernel_rfl
theorem fo_8_3 : fieldOff Try.prog 8 3 = some 3 := by kernel_rfl
theorem of_8 : offsB Try.prog 8 = some [(0, 1), (1, 1), (2, 1), (3, 1)] := by kernel_rfl
theorem ag_9 : aggB Try.prog 9 = some false := by kernel_rfl
theorem sz_9 : sizeB Try.prog 9 = some 1 := by kernel_rfl
theorem ze_9 : zeroL Try.prog 9 = some [.string ⟨#[]⟩] := by kernel_rfl
theorem ag_10 : aggB Try.prog 10 = some false := by kernel_rfl
theorem sz_10 : sizeB Try.prog 10 = some 1 := by kernel_rfl
theorem ze_10 : zeroL Try.prog 10 = some [.string ⟨#[]⟩] := by kernel_rfl
theorem ag_11 : aggB Try.prog 11 = some false := by kernel_rfl
theorem sz_11 : sizeB Try.prog 11 = some 1 := by kernel_rfl
theorem ze_11 : zeroL Try.prog 11 = some [.string ⟨#[]⟩] := by kernel_rfl
theorem ag_12 : aggB Try.prog 12 = some false := by kernel_rfl
theorem sz_12 : sizeB Try.prog 12 = some 1 := by kernel_rfl
theorem ze_12 : zeroL Try.prog 12 = some [.int .u64 (0)] := by kernel_rfl
theorem ag_13 : aggB Try.prog 13 = some true := by kernel_rfl
theorem sz_13 : sizeB Try.prog 13 = some 2 := by kernel_rfl
theorem ze_13 : zeroL Try.prog 13 = some [.string ⟨#[]⟩, .int .u64 (0)] := by kernel_rfl
theorem zb_13 : ∃ z, zeroB Try.prog 13 = some (.agg z) := ⟨#[.string ⟨#[]⟩, .int .u64 (0)], by kernel_rfl⟩
theorem fi_13_0 : fieldIn Try.prog 13 0 = some (0, 9) := by kernel_rfl
theorem fo_13_0 : fieldOff Try.prog 13 0 = some 0 := by kernel_rfl
theorem fi_13_1 : fieldIn Try.prog 13 1 = some (1, 12) := by kernel_rfl
theorem fo_13_1 : fieldOff Try.prog 13 1 = some 1 := by kernel_rfl
theorem of_13 : offsB Try.prog 13 = some [(0, 1), (1, 1)] := by kernel_rfl
theorem ag_14 : aggB Try.prog 14 = some true := by kernel_rfl
theorem sz_14 : sizeB Try.prog 14 = some 2 := by kernel_rfl
theorem ze_14 : zeroL Try.prog 14 = some [.string ⟨#[]⟩, .int .u64 (0)] := by kernel_rfl
theorem zb_14 : ∃ z, zeroB Try.prog 14 = some (.agg z) := ⟨#[.string ⟨#[]⟩, .int .u64 (0)], by kernel_rfl⟩
theorem fi_14_0 : fieldIn Try.prog 14 0 = some (0, 9) := by kernel_rfl
theorem fo_14_0 : fieldOff Try.prog 14 0 = some 0 := by kernel_rfl
theorem fi_14_1 : fieldIn Try.prog 14 1 = some (1, 12) := by kernel_rfl
theorem fo_14_1 : fieldOff Try.prog 14 1 = some 1 := by kernel_rfl
theorem of_14 : offsB Try.prog 14 = some [(0, 1), (1, 1)] := by kernel_rfl
theorem ag_15 : aggB Try.prog 15 = some false := by kernel_rfl
theorem sz_15 : sizeB Try.prog 15 = some 1 := by kernel_rfl
theorem ze_15 : zeroL Try.prog 15 = some [.pointer none] := by kernel_rfl
theorem ag_16 : aggB Try.prog 16 = some false := by kernel_rfl
theorem sz_16 : sizeB Try.prog 16 = some 1 := by kernel_rfl
theorem ze_16 : zeroL Try.prog 16 = some [.pointer none] := by kernel_rfl
theorem ag_17 : aggB Try.prog 17 = some false := by kernel_rfl
theorem sz_17 : sizeB Try.prog 17 = some 1 := by kernel_rfl
theorem ze_17 : zeroL Try.prog 17 = some [.pointer none] := by kernel_rfl
theorem ag_18 : aggB Try.prog 18 = some true := by kernel_rfl
theorem sz_18 : sizeB Try.prog 18 = some 1 := by kernel_rfl
theorem ze_18 : zeroL Try.prog 18 = some [.pointer none] := by kernel_rfl
theorem zb_18 : ∃ z, zeroB Try.prog 18 = some (.agg z) := ⟨#[.pointer none], by kernel_rfl⟩
theorem fi_18_0 : fieldIn Try.prog 18 0 = some (0, 17) := by kernel_rfl
theorem fo_18_0 : fieldOff Try.prog 18 0 = some 0 := by kernel_rfl
theorem of_18 : offsB Try.prog 18 = some [(0, 1)] := by kernel_rfl
theorem ag_19 : aggB Try.prog 19 = some true := by kernel_rfl
theorem sz_19 : sizeB Try.prog 19 = some 1 := by kernel_rfl
theorem ze_19 : zeroL Try.prog 19 = some [.pointer none] := by kernel_rfl
theorem zb_19 : ∃ z, zeroB Try.prog 19 = some (.agg z) := ⟨#[.pointer none], by kernel_rfl⟩
theorem fi_19_0 : fieldIn Try.prog 19 0 = some (0, 17) := by kernel_rfl
theorem fo_19_0 : fieldOff Try.prog 19 0 = some 0 := by kernel_rfl
theorem of_19 : offsB Try.prog 19 = some [(0, 1)] := by kernel_rfl
theorem ag_20 : aggB Try.prog 20 = some false := by kernel_rfl
theorem sz_20 : sizeB Try.prog 20 = some 1 := by kernel_rfl
theorem ze_20 : zeroL Try.prog 20 = some [.nilIface] := by kernel_rfl
theorem ag_21 : aggB Try.prog 21 = some false := by kernel_rfl
theorem sz_21 : sizeB Try.prog 21 = some 1 := by kernel_rfl
theorem ze_21 : zeroL Try.prog 21 = some [.int .i32 (0)] := by kernel_rfl
theorem ag_22 : aggB Try.prog 22 = some false := by kernel_rfl
theorem sz_22 : sizeB Try.prog 22 = some 1 := by kernel_rfl
theorem ze_22 : zeroL Try.prog 22 = some [.slice none 0 0] := by kernel_rfl
theorem el_22 : El Try.prog 22 3 1 8 [.int .i64 (0)] := ⟨by kernel_rfl, by kernel_rfl, by kernel_rfl, by kernel_rfl, rfl, by decide, by decide⟩
theorem ag_23 : aggB Try.prog 23 = some false := by kernel_rfl
theorem sz_23 : sizeB Try.prog 23 = some 1 := by kernel_rfl
theorem ze_23 : zeroL Try.prog 23 = some [.slice none 0 0] := by kernel_rfl
theorem el_23 : El Try.prog 23 44 2 16 [.int .i64 (0), .int .i64 (0)] := ⟨by kernel_rfl, by kernel_rfl, by kernel_rfl, by kernel_rfl, rfl, by decide, by decide⟩
theorem ag_24 : aggB Try.prog 24 = some false := by kernel_rfl
theorem sz_24 : sizeB Try.prog 24 = some 1 := by kernel_rfl
theorem ze_24 : zeroL Try.prog 24 = some [.nilFunc] := by kernel_rfl
theorem ag_25 : aggB Try.prog 25 = some false := by kernel_rfl
theorem sz_25 : sizeB Try.prog 25 = some 1 := by kernel_rfl
theorem ze_25 : zeroL Try.prog 25 = some [.tuple #[.int .i64 (0), .bool false]] := by kernel_rfl
theorem ag_26 : aggB Try.prog 26 = some false := by kernel_rfl
theorem sz_26 : sizeB Try.prog 26 = some 1 := by kernel_rfl
theorem ze_26 : zeroL Try.prog 26 = some [.nilFunc] := by kernel_rfl
theorem ag_27 : aggB Try.prog 27 = some false := by kernel_rfl
theorem sz_27 : sizeB Try.prog 27 = some 1 := by kernel_rfl
theorem ze_27 : zeroL Try.prog 27 = some [.nilFunc] := by kernel_rfl
theorem ag_28 : aggB Try.prog 28 = some false := by kernel_rfl
theorem sz_28 : sizeB Try.prog 28 = some 1 := by kernel_rfl
theorem ze_28 : zeroL Try.prog 28 = some [.nilFunc] := by kernel_rfl
theorem ag_29 : aggB Try.prog 29 = some false := by kernel_rfl
theorem sz_29 : sizeB Try.prog 29 = some 1 := by kernel_rfl
theorem ze_29 : zeroL Try.prog 29 = some [.nilFunc] := by kernel_rfl
theorem ag_30 : aggB Try.prog 30 = some false := by kernel_rfl
theorem sz_30 : sizeB Try.prog 30 = some 1 := by kernel_rfl
theorem ze_30 : zeroL Try.prog 30 = some [.nilFunc] := by kernel_rfl
theorem ag_31 : aggB Try.prog 31 = some false := by kernel_rfl
theorem sz_31 : sizeB Try.prog 31 = some 1 := by kernel_rfl
theorem ze_31 : zeroL Try.prog 31 = some [.nilFunc] := by kernel_rfl
theorem ag_32 : aggB Try.prog 32 = some false := by kernel_rfl
theorem sz_32 : sizeB Try.prog 32 = some 1 := by kernel_rfl
theorem ze_32 : zeroL Try.prog 32 = some [.nilFunc] := by kernel_rfl
theorem ag_33 : aggB Try.prog 33 = some true := by kernel_rfl
theorem sz_33 : sizeB Try.prog 33 = some 2 := by kernel_rfl
theorem ze_33 : zeroL Try.prog 33 = some [.int .i64 (0), .slice none 0 0] := by kernel_rfl
theorem zb_33 : ∃ z, zeroB Try.prog 33 = some (.agg z) := ⟨#[.int .i64 (0), .slice none 0 0], by kernel_rfl⟩
theorem fi_33_0 : fieldIn Try.prog 33 0 = some (0, 3) := by kernel_rfl
theorem fo_33_0 : fieldOff Try.prog 33 0 = some 0 := by kernel_rfl
theorem fi_33_1 : fieldIn Try.prog 33 1 = some (1, 22) := by kernel_rfl
theorem fo_33_1 : fieldOff Try.prog 33 1 = some 1 := by kernel_rfl
theorem of_33 : offsB Try.prog 33 = some [(0, 1), (1, 1)] := by kernel_rfl
theorem ag_34 : aggB Try.prog 34 = some true := by kernel_rfl
theorem sz_34 : sizeB Try.prog 34 = some 2 := by kernel_rfl
theorem ze_34 : zeroL Try.prog 34 = some [.int .i64 (0), .slice none 0 0] := by kernel_rfl
theorem zb_34 : ∃ z, zeroB Try.prog 34 = some (.agg z) := ⟨#[.int .i64 (0), .slice none 0 0], by kernel_rfl⟩
theorem fi_34_0 : fieldIn Try.prog 34 0 = some (0, 3) := by kernel_rfl
theorem fo_34_0 : fieldOff Try.prog 34 0 = some 0 := by kernel_rfl
theorem fi_34_1 : fieldIn Try.prog 34 1 = some (1, 22) := by kernel_rfl
theorem fo_34_1 : fieldOff Try.prog 34 1 = some 1 := by kernel_rfl
theorem of_34 : offsB Try.prog 34 = some [(0, 1), (1, 1)] := by kernel_rfl
theorem ag_35 : aggB Try.prog 35 = some false := by kernel_rfl
theorem sz_35 : sizeB Try.prog 35 = some 1 := by kernel_rfl
theorem ze_35 : zeroL Try.prog 35 = some [.nilFunc] := by kernel_rfl
theorem ag_36 : aggB Try.prog 36 = some false := by kernel_rfl
theorem sz_36 : sizeB Try.prog 36 = some 1 := by kernel_rfl
theorem ze_36 : zeroL Try.prog 36 = some [.nilFunc] := by kernel_rfl
theorem ag_37 : aggB Try.prog 37 = some false := by kernel_rfl
theorem sz_37 : sizeB Try.prog 37 = some 1 := by kernel_rfl
theorem ze_37 : zeroL Try.prog 37 = some [.nilFunc] := by kernel_rfl
theorem ag_38 : aggB Try.prog 38 = some false := by kernel_rfl
theorem sz_38 : sizeB Try.prog 38 = some 1 := by kernel_rfl
theorem ze_38 : zeroL Try.prog 38 = some [.nilFunc] := by kernel_rfl
theorem ag_39 : aggB Try.prog 39 = some false := by kernel_rfl
theorem sz_39 : sizeB Try.prog 39 = some 1 := by kernel_rfl
theorem ze_39 : zeroL Try.prog 39 = some [.int .i64 (0)] := by kernel_rfl
theorem ag_40 : aggB Try.prog 40 = some false := by kernel_rfl
theorem sz_40 : sizeB Try.prog 40 = some 1 := by kernel_rfl
theorem ze_40 : zeroL Try.prog 40 = some [.nilFunc] := by kernel_rfl
theorem ag_41 : aggB Try.prog 41 = some false := by kernel_rfl
theorem sz_41 : sizeB Try.prog 41 = some 1 := by kernel_rfl
theorem ze_41 : zeroL Try.prog 41 = some [.nilFunc] := by kernel_rfl
theorem ag_42 : aggB Try.prog 42 = some false := by kernel_rfl
theorem sz_42 : sizeB Try.prog 42 = some 1 := by kernel_rfl
theorem ze_42 : zeroL Try.prog 42 = some [.nilFunc] := by kernel_rfl
theorem ag_43 : aggB Try.prog 43 = some true := by kernel_rfl
theorem sz_43 : sizeB Try.prog 43 = some 2 := by kernel_rfl
theorem ze_43 : zeroL Try.prog 43 = some [.int .i64 (0), .int .i64 (0)] := by kernel_rfl
theorem zb_43 : ∃ z, zeroB Try.prog 43 = some (.agg z) := ⟨#[.int .i64 (0), .int .i64 (0)], by kernel_rfl⟩
theorem fi_43_0 : fieldIn Try.prog 43 0 = some (0, 3) := by kernel_rfl
theorem fo_43_0 : fieldOff Try.prog 43 0 = some 0 := by kernel_rfl
theorem fi_43_1 : fieldIn Try.prog 43 1 = some (1, 3) := by kernel_rfl
theorem fo_43_1 : fieldOff Try.prog 43 1 = some 1 := by kernel_rfl
theorem of_43 : offsB Try.prog 43 = some [(0, 1), (1, 1)] := by kernel_rfl
theorem ag_44 : aggB Try.prog 44 = some true := by kernel_rfl
theorem sz_44 : sizeB Try.prog 44 = some 2 := by kernel_rfl
theorem ze_44 : zeroL Try.prog 44 = some [.int .i64 (0), .int .i64 (0)] := by kernel_rfl
theorem zb_44 : ∃ z, zeroB Try.prog 44 = some (.agg z) := ⟨#[.int .i64 (0), .int .i64 (0)], by kernel_rfl⟩
theorem fi_44_0 : fieldIn Try.prog 44 0 = some (0, 3) := by kernel_rfl
theorem fo_44_0 : fieldOff Try.prog 44 0 = some 0 := by kernel_rfl
theorem fi_44_1 : fieldIn Try.prog 44 1 = some (1, 3) := by kernel_rfl
theorem fo_44_1 : fieldOff Try.prog 44 1 = some 1 := by kernel_rfl
theorem of_44 : offsB Try.prog 44 = some [(0, 1), (1, 1)] := by kernel_rfl
theorem ag_45 : aggB Try.prog 45 = some false := by kernel_rfl
theorem sz_45 : sizeB Try.prog 45 = some 1 := by kernel_rfl
theorem ze_45 : zeroL Try.prog 45 = some [.nilFunc] := by kernel_rfl
theorem ag_46 : aggB Try.prog 46 = some false := by kernel_rfl
theorem sz_46 : sizeB Try.prog 46 = some 1 := by kernel_rfl
theorem ze_46 : zeroL Try.prog 46 = some [.nilFunc] := by kernel_rfl
theorem ag_47 : aggB Try.prog 47 = some false := by kernel_rfl
theorem sz_47 : sizeB Try.prog 47 = some 1 := by kernel_rfl
theorem ze_47 : zeroL Try.prog 47 = some [.nilFunc] := by kernel_rfl
theorem ag_48 : aggB Try.prog 48 = some false := by kernel_rfl
theorem sz_48 : sizeB Try.prog 48 = some 1 := by kernel_rfl
theorem ze_48 : zeroL Try.prog 48 = some [.nilFunc] := by kernel_rfl
theorem ag_49 : aggB Try.prog 49 = some false := by kernel_rfl
theorem sz_49 : sizeB Try.prog 49 = some 1 := by kernel_rfl
theorem ze_49 : zeroL Try.prog 49 = some [.nilFunc] := by kernel_rfl
theorem ag_50 : aggB Try.prog 50 = some false := by kernel_rfl
theorem sz_50 : sizeB Try.prog 50 = some 1 := by kernel_rfl
theorem ze_50 : zeroL Try.prog 50 = some [.nilFunc] := by kernel_rfl
theorem ag_51 : aggB Try.prog 51 = some false := by kernel_rfl
theorem sz_51 : sizeB Try.prog 51 = some 1 := by kernel_rfl
theorem ze_51 : zeroL Try.prog 51 = some [.nilFunc] := by kernel_rfl
theorem ag_52 : aggB Try.prog 52 = some false := by kernel_rfl
theorem sz_52 : sizeB Try.prog 52 = some 1 := by kernel_rfl
theorem ze_52 : zeroL Try.prog 52 = some [.nilFunc] := by kernel_rfl
theorem ag_53 : aggB Try.prog 53 = some false := by kernel_rfl
theorem sz_53 : sizeB Try.prog 53 = some 1 := by kernel_rfl
theorem ze_53 : zeroL Try.prog 53 = some [.nilFunc] := by kernel_rfl
theorem ag_54 : aggB Try.prog 54 = some false := by kernel_rfl
theorem sz_54 : sizeB Try.prog 54 = some 1 := by kernel_rfl
theorem ze_54 : zeroL Try.prog 54 = some [.nilFunc] := by kernel_rfl
theorem ag_55 : aggB Try.prog 55 = some false := by kernel_rfl
theorem sz_55 : sizeB Try.prog 55 = some 1 := by kernel_rfl
theorem ze_55 : zeroL Try.prog 55 = some [.nilFunc] := by kernel_rfl
theorem ag_56 : aggB Try.prog 56 = some false := by kernel_rfl
theorem sz_56 : sizeB Try.prog 56 = some 1 := by kernel_rfl
theorem ze_56 : zeroL Try.prog 56 = some [.nilFunc] := by kernel_rfl
theorem ag_57 : aggB Try.prog 57 = some false := by kernel_rfl
theorem sz_57 : sizeB Try.prog 57 = some 1 := by kernel_rfl
theorem ze_57 : zeroL Try.prog 57 = some [.int .u64 (0)] := by kernel_rfl
theorem ag_58 : aggB Try.prog 58 = some false := by kernel_rfl
theorem sz_58 : sizeB Try.prog 58 = some 1 := by kernel_rfl
theorem ze_58 : zeroL Try.prog 58 = some [.nilFunc] := by kernel_rfl
theorem ag_59 : aggB Try.prog 59 = some false := by kernel_rfl
theorem sz_59 : sizeB Try.prog 59 = some 1 := by kernel_rfl
theorem ze_59 : zeroL Try.prog 59 = some [.nilFunc] := by kernel_rfl
theorem ag_60 : aggB Try.prog 60 = some false := by kernel_rfl
theorem sz_60 : sizeB Try.prog 60 = some 1 := by kernel_rfl
theorem ze_60 : zeroL Try.prog 60 = some [.nilFunc] := by kernel_rfl
theorem ag_61 : aggB Try.prog 61 = some false := by kernel_rfl
theorem sz_61 : sizeB Try.prog 61 = some 1 := by kernel_rfl
theorem ze_61 : zeroL Try.prog 61 = some [.nilFunc] := by kernel_rfl
theorem ag_62 : aggB Try.prog 62 = some false := by kernel_rfl
theorem sz_62 : sizeB Try.prog 62 = some 1 := by kernel_rfl
theorem ze_62 : zeroL Try.prog 62 = some [.nilFunc] := by kernel_rfl
theorem ag_63 : aggB Try.prog 63 = some false := by kernel_rfl
theorem sz_63 : sizeB Try.prog 63 = some 1 := by kernel_rfl
theorem ze_63 : zeroL Try.prog 63 = some [.int .i64 (0)] := by kernel_rfl
theorem ag_64 : aggB Try.prog 64 = some false := by kernel_rfl
theorem sz_64 : sizeB Try.prog 64 = some 1 := by kernel_rfl
theorem ze_64 : zeroL Try.prog 64 = some [.tuple #[.int .i64 (0), .int .i64 (0)]] := by kernel_rfl
theorem ag_65 : aggB Try.prog 65 = some false := by kernel_rfl
theorem sz_65 : sizeB Try.prog 65 = some 1 := by kernel_rfl
theorem ze_65 : zeroL Try.prog 65 = some [.nilFunc] := by kernel_rfl
theorem ag_66 : aggB Try.prog 66 = some false := by kernel_rfl
theorem sz_66 : sizeB Try.prog 66 = some 1 := by kernel_rfl
theorem ze_66 : zeroL Try.prog 66 = some [.nilFunc] := by kernel_rfl
theorem ag_67 : aggB Try.prog 67 = some false := by kernel_rfl
theorem sz_67 : sizeB Try.prog 67 = some 1 := by kernel_rfl
theorem ze_67 : zeroL Try.prog 67 = some [.nilFunc] := by kernel_rfl
theorem ag_68 : aggB Try.prog 68 = some false := by kernel_rfl
theorem sz_68 : sizeB Try.prog 68 = some 1 := by kernel_rfl
theorem ze_68 : zeroL Try.prog 68 = some [.nilFunc] := by kernel_rfl
theorem ag_69 : aggB Try.prog 69 = some false := by kernel_rfl
theorem sz_69 : sizeB Try.prog 69 = some 1 := by kernel_rfl
theorem ze_69 : zeroL Try.prog 69 = some [.nilFunc] := by kernel_rfl
theorem ag_70 : aggB Try.prog 70 = some false := by kernel_rfl
theorem sz_70 : sizeB Try.prog 70 = some 1 := by kernel_rfl
theorem ze_70 : zeroL Try.prog 70 = some [.nilFunc] := by kernel_rfl
theorem ag_71 : aggB Try.prog 71 = some false := by kernel_rfl
theorem sz_71 : sizeB Try.prog 71 = some 1 := by kernel_rfl
theorem ze_71 : zeroL Try.prog 71 = some [.int .u32 (0)] := by kernel_rfl
theorem ag_72 : aggB Try.prog 72 = some false := by kernel_rfl
theorem sz_72 : sizeB Try.prog 72 = some 1 := by kernel_rfl
theorem ze_72 : zeroL Try.prog 72 = some [.nilFunc] := by kernel_rfl
theorem ag_73 : aggB Try.prog 73 = some false := by kernel_rfl
theorem sz_73 : sizeB Try.prog 73 = some 1 := by kernel_rfl
theorem ze_73 : zeroL Try.prog 73 = some [.int .u64 (0)] := by kernel_rfl
theorem ag_74 : aggB Try.prog 74 = some false := by kernel_rfl
theorem sz_74 : sizeB Try.prog 74 = some 1 := by kernel_rfl
theorem ze_74 : zeroL Try.prog 74 = some [.nilFunc] := by kernel_rfl
theorem ag_75 : aggB Try.prog 75 = some false := by kernel_rfl
theorem sz_75 : sizeB Try.prog 75 = some 1 := by kernel_rfl
theorem ze_75 : zeroL Try.prog 75 = some [.nilFunc] := by kernel_rfl
theorem ag_76 : aggB Try.prog 76 = some false := by kernel_rfl
theorem sz_76 : sizeB Try.prog 76 = some 1 := by kernel_rfl
theorem ze_76 : zeroL Try.prog 76 = some [.nilFunc] := by kernel_rfl
theorem ag_77 : aggB Try.prog 77 = some false := by kernel_rfl
theorem sz_77 : sizeB Try.prog 77 = some 1 := by kernel_rfl
theorem ze_77 : zeroL Try.prog 77 = some [.nilFunc] := by kernel_rfl
theorem ag_78 : aggB Try.prog 78 = some false := by kernel_rfl
theorem sz_78 : sizeB Try.prog 78 = some 1 := by kernel_rfl
theorem ze_78 : zeroL Try.prog 78 = some [.nilFunc] := by kernel_rfl
theorem ag_79 : aggB Try.prog 79 = some false := by kernel_rfl
theorem sz_79 : sizeB Try.prog 79 = some 1 := by kernel_rfl
theorem ze_79 : zeroL Try.prog 79 = some [.nilFunc] := by kernel_rfl
theorem ag_80 : aggB Try.prog 80 = some false := by kernel_rfl
theorem sz_80 : sizeB Try.prog 80 = some 1 := by kernel_rfl
theorem ze_80 : zeroL Try.prog 80 = some [.int .u64 (0)] := by kernel_rfl
theorem ag_81 : aggB Try.prog 81 = some false := by kernel_rfl
theorem sz_81 : sizeB Try.prog 81 = some 1 := by kernel_rfl
theorem ze_81 : zeroL Try.prog 81 = some [.nilFunc] := by kernel_rfl
theorem ag_82 : aggB Try.prog 82 = some false := by kernel_rfl
theorem sz_82 : sizeB Try.prog 82 = some 1 := by kernel_rfl
theorem ze_82 : zeroL Try.prog 82 = some [.nilFunc] := by kernel_rfl
theorem ag_83 : aggB Try.prog 83 = some false := by kernel_rfl
theorem sz_83 : sizeB Try.prog 83 = some 1 := by kernel_rfl
theorem ze_83 : zeroL Try.prog 83 = some [.nilFunc] := by kernel_rfl
theorem ag_84 : aggB Try.prog 84 = some false := by kernel_rfl
theorem sz_84 : sizeB Try.prog 84 = some 1 := by kernel_rfl
theorem ze_84 : zeroL Try.prog 84 = some [.pointer none] := by kernel_rfl
theorem ag_85 : aggB Try.prog 85 = some false := by kernel_rfl
theorem sz_85 : sizeB Try.prog 85 = some 1 := by kernel_rfl
theorem ze_85 : zeroL Try.prog 85 = some [.nilFunc] := by kernel_rfl
theorem ag_86 : aggB Try.prog 86 = some false := by kernel_rfl
theorem sz_86 : sizeB Try.prog 86 = some 1 := by kernel_rfl
theorem ze_86 : zeroL Try.prog 86 = some [.nilFunc] := by kernel_rfl
theorem ag_87 : aggB Try.prog 87 = some false := by kernel_rfl
theorem sz_87 : sizeB Try.prog 87 = some 1 := by kernel_rfl
theorem ze_87 : zeroL Try.prog 87 = some [.nilFunc] := by kernel_rfl
theorem ag_88 : aggB Try.prog 88 = some false := by kernel_rfl
theorem sz_88 : sizeB Try.prog 88 = some 1 := by kernel_rfl
theorem ze_88 : zeroL Try.prog 88 = some [.pointer none] := by kernel_rfl
theorem ag_89 : aggB Try.prog 89 = some false := by kernel_rfl
theorem sz_89 : sizeB Try.prog 89 = some 1 := by kernel_rfl
theorem ze_89 : zeroL Try.prog 89 = some [.tuple #[.int .i64 (0), .int .i64 (0)]] := by kernel_rfl
theorem ag_90 : aggB Try.prog 90 = some false := by kernel_rfl
theorem sz_90 : sizeB Try.prog 90 = some 1 := by kernel_rfl
theorem ze_90 : zeroL Try.prog 90 = some [.nilFunc] := by kernel_rfl
theorem ag_91 : aggB Try.prog 91 = some false := by kernel_rfl
theorem sz_91 : sizeB Try.prog 91 = some 1 := by kernel_rfl
theorem ze_91 : zeroL Try.prog 91 = some [.nilFunc] := by kernel_rfl
theorem ag_92 : aggB Try.prog 92 = some false := by kernel_rfl
theorem sz_92 : sizeB Try.prog 92 = some 1 := by kernel_rfl
theorem ze_92 : zeroL Try.prog 92 = some [.nilFunc] := by kernel_rfl
theorem ag_93 : aggB Try.prog 93 = some true := by kernel_rfl
theorem sz_93 : sizeB Try.prog 93 = some 4 := by kernel_rfl
theorem ze_93 : zeroL Try.prog 93 = some [.pointer none, .pointer none, .pointer none, .string ⟨#[]⟩] := by kernel_rfl
theorem zb_93 : ∃ z, zeroB Try.prog 93 = some (.agg z) := ⟨#[.pointer none, .pointer none, .pointer none, .string ⟨#[]⟩], by kernel_rfl⟩
theorem fi_93_0 : fieldIn Try.prog 93 0 = some (0, 17) := by kernel_rfl
theorem fo_93_0 : fieldOff Try.prog 93 0 = some 0 := by kernel_rfl
theorem fi_93_1 : fieldIn Try.prog 93 1 = some (1, 17) := by kernel_rfl
theorem fo_93_1 : fieldOff Try.prog 93 1 = some 1 := by kernel_rfl
theorem fi_93_2 : fieldIn Try.prog 93 2 = some (2, 17) := by kernel_rfl
theorem fo_93_2 : fieldOff Try.prog 93 2 = some 2 := by kernel_rfl
theorem fi_93_3 : fieldIn Try.prog 93 3 = some (3, 9) := by kernel_rfl
theorem fo_93_3 : fieldOff Try.prog 93 3 = some 3 := by kernel_rfl
theorem of_93 : offsB Try.prog 93 = some [(0, 1), (1, 1), (2, 1), (3, 1)] := by kernel_rfl
theorem ag_94 : aggB Try.prog 94 = some true := by kernel_rfl
theorem sz_94 : sizeB Try.prog 94 = some 4 := by kernel_rfl
theorem ze_94 : zeroL Try.prog 94 = some [.pointer none, .pointer none, .pointer none, .string ⟨#[]⟩] := by kernel_rfl
theorem zb_94 : ∃ z, zeroB Try.prog 94 = some (.agg z) := ⟨#[.pointer none, .pointer none, .pointer none, .string ⟨#[]⟩], by kernel_rfl⟩
theorem fi_94_0 : fieldIn Try.prog 94 0 = some (0, 17) := by kernel_rfl
theorem fo_94_0 : fieldOff Try.prog 94 0 = some 0 := by kernel_rfl
theorem fi_94_1 : fieldIn Try.prog 94 1 = some (1, 17) := by kernel_rfl
theorem fo_94_1 : fieldOff Try.prog 94 1 = some 1 := by kernel_rfl
theorem fi_94_2 : fieldIn Try.prog 94 2 = some (2, 17) := by kernel_rfl
theorem fo_94_2 : fieldOff Try.prog 94 2 = some 2 := by kernel_rfl
theorem fi_94_3 : fieldIn Try.prog 94 3 = some (3, 9) := by kernel_rfl
theorem fo_94_3 : fieldOff Try.prog 94 3 = some 3 := by kernel_rfl
theorem of_94 : offsB Try.prog 94 = some [(0, 1), (1, 1), (2, 1), (3, 1)] := by kernel_rfl
theorem ag_95 : aggB Try.prog 95 = some true := by kernel_rfl
theorem sz_95 : sizeB Try.prog 95 = some 0 := by kernel_rfl
theorem ze_95 : zeroL Try.prog 95 = some [] := by kernel_rfl
theorem ag_96 : aggB Try.prog 96 = some true := by kernel_rfl
theorem sz_96 : sizeB Try.prog 96 = some 0 := by kernel_rfl
theorem ze_96 : zeroL Try.prog 96 = some [] := by kernel_rfl
theorem zb_96 : ∃ z, zeroB Try.prog 96 = some (.agg z) := ⟨#[], by kernel_rfl⟩
theorem fi_96_0 : fieldIn Try.prog 96 0 = some (0, 95) := by kernel_rfl
theorem of_96 : offsB Try.prog 96 = some [(0, 0)] := by kernel_rfl
theorem ag_97 : aggB Try.prog 97 = some true := by kernel_rfl
theorem sz_97 : sizeB Try.prog 97 = some 0 := by kernel_rfl
theorem ze_97 : zeroL Try.prog 97 = some [] := by kernel_rfl
theorem zb_97 : ∃ z, zeroB Try.prog 97 = some (.agg z) := ⟨#[], by kernel_rfl⟩
theorem fi_97_0 : fieldIn Try.prog 97 0 = some (0, 95) := by kernel_rfl
theorem of_97 : offsB Try.prog 97 = some [(0, 0)] := by kernel_rfl
theorem ag_98 : aggB Try.prog 98 = some false := by kernel_rfl
theorem sz_98 : sizeB Try.prog 98 = some 1 := by kernel_rfl
theorem ze_98 : zeroL Try.prog 98 = some [.nilFunc] := by kernel_rfl
theorem ag_99 : aggB Try.prog 99 = some false := by kernel_rfl
theorem sz_99 : sizeB Try.prog 99 = some 1 := by kernel_rfl
theorem ze_99 : zeroL Try.prog 99 = some [.int .u8 (0)] := by kernel_rfl
theorem ag_100 : aggB Try.prog 100 = some false := by kernel_rfl
theorem sz_100 : sizeB Try.prog 100 = some 1 := by kernel_rfl
theorem ze_100 : zeroL Try.prog 100 = some [.int .u8 (0)] := by kernel_rfl
theorem ag_101 : aggB Try.prog 101 = some false := by kernel_rfl
theorem sz_101 : sizeB Try.prog 101 = some 1 := by kernel_rfl
theorem ze_101 : zeroL Try.prog 101 = some [.nilFunc] := by kernel_rfl
theorem ag_102 : aggB Try.prog 102 = some false := by kernel_rfl
theorem sz_102 : sizeB Try.prog 102 = some 1 := by kernel_rfl
theorem ze_102 : zeroL Try.prog 102 = some [.pointer none] := by kernel_rfl
theorem ag_103 : aggB Try.prog 103 = some false := by kernel_rfl
theorem sz_103 : sizeB Try.prog 103 = some 1 := by kernel_rfl
theorem ze_103 : zeroL Try.prog 103 = some [.int .i32 (0)] := by kernel_rfl
theorem ag_104 : aggB Try.prog 104 = some false := by kernel_rfl
theorem sz_104 : sizeB Try.prog 104 = some 1 := by kernel_rfl
theorem ze_104 : zeroL Try.prog 104 = some [.int .i32 (0)] := by kernel_rfl
theorem ag_105 : aggB Try.prog 105 = some true := by kernel_rfl
theorem sz_105 : sizeB Try.prog 105 = some 11 := by kernel_rfl
theorem ze_105 : zeroL Try.prog 105 = some [.int .u64 (0), .int .u64 (0), .int .u32 (0), .int .u8 (0), .int .u8 (0), .int .u8 (0), .int .u8 (0), .nilFunc, .pointer none, .int .i32 (0), .int .i32 (0)] := by kernel_rfl
theorem zb_105 : ∃ z, zeroB Try.prog 105 = some (.agg z) := ⟨#[.int .u64 (0), .int .u64 (0), .int .u32 (0), .int .u8 (0), .int .u8 (0), .int .u8 (0), .int .u8 (0), .nilFunc, .pointer none, .int .i32 (0), .int .i32 (0)], by kernel_rfl⟩
theorem fi_105_0 : fieldIn Try.prog 105 0 = some (0, 12) := by kernel_rfl
theorem fo_105_0 : fieldOff Try.prog 105 0 = some 0 := by kernel_rfl
theorem fi_105_1 : fieldIn Try.prog 105 1 = some (1, 12) := by kernel_rfl
theorem fo_105_1 : fieldOff Try.prog 105 1 = some 1 := by kernel_rfl
theorem fi_105_2 : fieldIn Try.prog 105 2 = some (2, 71) := by kernel_rfl
theorem fo_105_2 : fieldOff Try.prog 105 2 = some 2 := by kernel_rfl
theorem fi_105_3 : fieldIn Try.prog 105 3 = some (3, 99) := by kernel_rfl
theorem fo_105_3 : fieldOff Try.prog 105 3 = some 3 := by kernel_rfl
theorem fi_105_4 : fieldIn Try.prog 105 4 = some (4, 5) := by kernel_rfl
theorem fo_105_4 : fieldOff Try.prog 105 4 = some 4 := by kernel_rfl
theorem fi_105_5 : fieldIn Try.prog 105 5 = some (5, 5) := by kernel_rfl
theorem fo_105_5 : fieldOff Try.prog 105 5 = some 5 := by kernel_rfl
theorem fi_105_6 : fieldIn Try.prog 105 6 = some (6, 100) := by kernel_rfl
theorem fo_105_6 : fieldOff Try.prog 105 6 = some 6 := by kernel_rfl
theorem fi_105_7 : fieldIn Try.prog 105 7 = some (7, 101) := by kernel_rfl
theorem fo_105_7 : fieldOff Try.prog 105 7 = some 7 := by kernel_rfl
theorem fi_105_8 : fieldIn Try.prog 105 8 = some (8, 102) := by kernel_rfl
theorem fo_105_8 : fieldOff Try.prog 105 8 = some 8 := by kernel_rfl
theorem fi_105_9 : fieldIn Try.prog 105 9 = some (9, 103) := by kernel_rfl
theorem fo_105_9 : fieldOff Try.prog 105 9 = some 9 := by kernel_rfl
theorem fi_105_10 : fieldIn Try.prog 105 10 = some (10, 104) := by kernel_rfl
theorem fo_105_10 : fieldOff Try.prog 105 10 = some 10 := by kernel_rfl
theorem of_105 : offsB Try.prog 105 = some [(0, 1), (1, 1), (2, 1), (3, 1), (4, 1), (5, 1), (6, 1), (7, 1), (8, 1), (9, 1), (10, 1)] := by kernel_rfl
theorem ag_106 : aggB Try.prog 106 = some true := by kernel_rfl
theorem sz_106 : sizeB Try.prog 106 = some 11 := by kernel_rfl
theorem ze_106 : zeroL Try.prog 106 = some [.int .u64 (0), .int .u64 (0), .int .u32 (0), .int .u8 (0), .int .u8 (0), .int .u8 (0), .int .u8 (0), .nilFunc, .pointer none, .int .i32 (0), .int .i32 (0)] := by kernel_rfl
theorem zb_106 : ∃ z, zeroB Try.prog 106 = some (.agg z) := ⟨#[.int .u64 (0), .int .u64 (0), .int .u32 (0), .int .u8 (0), .int .u8 (0), .int .u8 (0), .int .u8 (0), .nilFunc, .pointer none, .int .i32 (0), .int .i32 (0)], by kernel_rfl⟩
theorem fi_106_0 : fieldIn Try.prog 106 0 = some (0, 12) := by kernel_rfl
theorem fo_106_0 : fieldOff Try.prog 106 0 = some 0 := by kernel_rfl
theorem fi_106_1 : fieldIn Try.prog 106 1 = some (1, 12) := by kernel_rfl
theorem fo_106_1 : fieldOff Try.prog 106 1 = some 1 := by kernel_rfl
theorem fi_106_2 : fieldIn Try.prog 106 2 = some (2, 71) := by kernel_rfl
theorem fo_106_2 : fieldOff Try.prog 106 2 = some 2 := by kernel_rfl
theorem fi_106_3 : fieldIn Try.prog 106 3 = some (3, 99) := by kernel_rfl
theorem fo_106_3 : fieldOff Try.prog 106 3 = some 3 := by kernel_rfl
theorem fi_106_4 : fieldIn Try.prog 106 4 = some (4, 5) := by kernel_rfl
theorem fo_106_4 : fieldOff Try.prog 106 4 = some 4 := by kernel_rfl
theorem fi_106_5 : fieldIn Try.prog 106 5 = some (5, 5) := by kernel_rfl
theorem fo_106_5 : fieldOff Try.prog 106 5 = some 5 := by kernel_rfl
theorem fi_106_6 : fieldIn Try.prog 106 6 = some (6, 100) := by kernel_rfl
theorem fo_106_6 : fieldOff Try.prog 106 6 = some 6 := by kernel_rfl
theorem fi_106_7 : fieldIn Try.prog 106 7 = some (7, 101) := by kernel_rfl
theorem fo_106_7 : fieldOff Try.prog 106 7 = some 7 := by kernel_rfl
theorem fi_106_8 : fieldIn Try.prog 106 8 = some (8, 102) := by kernel_rfl
theorem fo_106_8 : fieldOff Try.prog 106 8 = some 8 := by kernel_rfl
theorem fi_106_9 : fieldIn Try.prog 106 9 = some (9, 103) := by kernel_rfl
theorem fo_106_9 : fieldOff Try.prog 106 9 = some 9 := by kernel_rfl
theorem fi_106_10 : fieldIn Try.prog 106 10 = some (10, 104) := by kernel_rfl
theorem fo_106_10 : fieldOff Try.prog 106 10 = some 10 := by kernel_rfl
theorem of_106 : offsB Try.prog 106 = some [(0, 1), (1, 1), (2, 1), (3, 1), (4, 1), (5, 1), (6, 1), (7, 1), (8, 1), (9, 1), (10, 1)] := by kernel_rfl
theorem fn_2 : Ent Try.prog 2 := Try.call2
theorem fn_3 : Ent Try.prog 3 := Try.call3
theorem fn_4 : Ent Try.prog 4 := Try.call4
theorem fn_5 : Ent Try.prog 5 := Try.call5
theorem fn_6 : Ent Try.prog 6 := Try.call6
theorem fn_7 : Ent Try.prog 7 := Try.call7
theorem fn_8 : Ent Try.prog 8 := Try.call8
theorem fn_9 : Ent Try.prog 9 := Try.call9
theorem fn_10 : Ent Try.prog 10 := Try.call10
theorem fn_11 : Ent Try.prog 11 := Try.call11
theorem fn_12 : Ent Try.prog 12 := Try.call12
theorem fn_13 : Ent Try.prog 13 := Try.call13
theorem fn_14 : Ent Try.prog 14 := Try.call14
theorem fn_15 : Ent Try.prog 15 := Try.call15
theorem fn_16 : Ent Try.prog 16 := Try.call16
theorem fn_17 : Ent Try.prog 17 := Try.call17
theorem fn_18 : Ent Try.prog 18 := Try.call18
theorem fn_19 : Ent Try.prog 19 := Try.call19
theorem fn_20 : Ent Try.prog 20 := Try.call20
theorem fn_21 : Ent Try.prog 21 := Try.call21
theorem fn_22 : Ent Try.prog 22 := Try.call22
theorem fn_23 : Ent Try.prog 23 := Try.call23
theorem fn_24 : Ent Try.prog 24 := Try.call24
theorem fn_25 : Ent Try.prog 25 := Try.call25
theorem fn_26 : Ent Try.prog 26 := Try.call26
theorem fn_27 : Ent Try.prog 27 := Try.call27
theorem fn_28 : Ent Try.prog 28 := Try.call28
theorem fn_29 : Ent Try.prog 29 := Try.call29
theorem fn_30 : Ent Try.prog 30 := Try.call30
theorem fn_31 : Ent Try.prog 31 := Try.call31
theorem fn_32 : Ent Try.prog 32 := Try.call32
theorem fn_33 : Ent Try.prog 33 := Try.call33
theorem fn_34 : Ent Try.prog 34 := Try.call34
theorem fn_35 : Ent Try.prog 35 := Try.call35
theorem fn_36 : Ent Try.prog 36 := Try.call36
theorem fn_37 : Ent Try.prog 37 := Try.call37
theorem fn_38 : Ent Try.prog 38 := Try.call38
theorem fn_39 : Ent Try.prog 39 := Try.call39
theorem fn_40 : Ent Try.prog 40 := Try.call40
theorem fn_41 : Ent Try.prog 41 := Try.call41
theorem fn_42 : Ent Try.prog 42 := Try.call42
theorem fn_43 : Ent Try.prog 43 := Try.call43
theorem fn_44 : Ent Try.prog 44 := Try.call44
theorem fn_45 : Ent Try.prog 45 := Try.call45
theorem fn_46 : Ent Try.prog 46 := Try.call46
theorem fn_47 : Ent Try.prog 47 := Try.call47
theorem fn_48 : Ent Try.prog 48 := Try.call48
theorem fn_49 : Ent Try.prog 49 := Try.call49
theorem fn_50 : Ent Try.prog 50 := Try.call50
theorem fn_51 : Ent Try.prog 51 := Try.call51
theorem fn_52 : Ent Try.prog 52 := Try.call52
theorem fn_53 : Ent Try.prog 53 := Try.call53
theorem fn_54 : Ent Try.prog 54 := Try.call54
theorem fn_55 : Ent Try.prog 55 := Try.call55
theorem fn_56 : Ent Try.prog 56 := Try.call56
theorem fn_57 : Ent Try.prog 57 := Try.call57
theorem fn_58 : Ent Try.prog 58 := Try.call58
theorem fn_59 : Ent Try.prog 59 := Try.call59
theorem fn_60 : Ent Try.prog 60 := Try.call60
theorem fn_61 : Ent Try.prog 61 := Try.call61
theorem fn_62 : Ent Try.prog 62 := Try.call62
theorem fn_63 : Ent Try.prog 63 := Try.call63
theorem fn_64 : Ent Try.prog 64 := Try.call64
theorem fn_65 : Ent Try.prog 65 := Try.call65
theorem fn_66 : Ent Try.prog 66 := Try.call66
theorem fn_67 : Ent Try.prog 67 := Try.call67
theorem fn_68 : Ent Try.prog 68 := Try.call68
theorem fn_69 : Ent Try.prog 69 := Try.call69
theorem fn_70 : Ent Try.prog 70 := Try.call70
theorem fn_71 : Ent Try.prog 71 := Try.call71
theorem fn_72 : Ent Try.prog 72 := Try.call72
theorem wide_ : Try.prog.follows .mixedOrders = true := by kernel_rfl
end Go.Proofs.Ytmjfkjajedhciaa
