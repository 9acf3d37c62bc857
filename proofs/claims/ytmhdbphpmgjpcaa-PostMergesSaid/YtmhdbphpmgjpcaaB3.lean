/- Closed facts on the types and functions of the translation, laid by a program. -/
import Derived.Test.YtmhdbphpmgjpcaaProg
import Derived.KernelRfl
import Derived.Test.YtmhdbphpmgjpcaaB2
namespace Go.Proofs.Ytmhdbphpmgjpcaa
open Go.Gx

theorem us1 : (Try.prog.underlying 1).isSome = true := by kernel_rfl
theorem one1 : oneT Try.prog 1 = true := by kernel_rfl
theorem size1 : (Try.prog.info? 1).map (·.size) = some 1 := by kernel_rfl
theorem us2 : (Try.prog.underlying 2).isSome = true := by kernel_rfl
theorem one2 : oneT Try.prog 2 = true := by kernel_rfl
theorem size2 : (Try.prog.info? 2).map (·.size) = some 1 := by kernel_rfl
theorem zero2 : zeroT Try.prog 2 = some (Value.int .i64 0) := by kernel_rfl
theorem us3 : (Try.prog.underlying 3).isSome = true := by kernel_rfl
theorem one3 : oneT Try.prog 3 = true := by kernel_rfl
theorem size3 : (Try.prog.info? 3).map (·.size) = some 1 := by kernel_rfl
theorem zero3 : zeroT Try.prog 3 = some (Value.int .i64 0) := by kernel_rfl
theorem us4 : (Try.prog.underlying 4).isSome = true := by kernel_rfl
theorem one4 : oneT Try.prog 4 = true := by kernel_rfl
theorem size4 : (Try.prog.info? 4).map (·.size) = some 1 := by kernel_rfl
theorem zero4 : zeroT Try.prog 4 = some (Value.bool false) := by kernel_rfl
theorem us5 : (Try.prog.underlying 5).isSome = true := by kernel_rfl
theorem one5 : oneT Try.prog 5 = true := by kernel_rfl
theorem size5 : (Try.prog.info? 5).map (·.size) = some 1 := by kernel_rfl
theorem zero5 : zeroT Try.prog 5 = some (Value.int .u8 0) := by kernel_rfl
theorem us6 : (Try.prog.underlying 6).isSome = true := by kernel_rfl
theorem one6 : oneT Try.prog 6 = true := by kernel_rfl
theorem size6 : (Try.prog.info? 6).map (·.size) = some 1 := by kernel_rfl
theorem zero6 : zeroT Try.prog 6 = some (Value.int .u8 0) := by kernel_rfl
theorem us7 : (Try.prog.underlying 7).isSome = true := by kernel_rfl
theorem agg7 : aggT Try.prog 7 = some 4 := by kernel_rfl
theorem fld7_0 : fieldT Try.prog 7 0 = some 0 := by kernel_rfl
theorem fld7_1 : fieldT Try.prog 7 1 = some 1 := by kernel_rfl
theorem fld7_2 : fieldT Try.prog 7 2 = some 2 := by kernel_rfl
theorem fld7_3 : fieldT Try.prog 7 3 = some 3 := by kernel_rfl
theorem size7 : (Try.prog.info? 7).map (·.size) = some 4 := by kernel_rfl
theorem zero7 : zeroT Try.prog 7 = some (Value.agg #[(Value.int .i64 0), (Value.int .i64 0), (Value.bool false), (Value.int .u8 0)]) := by kernel_rfl
theorem us8 : (Try.prog.underlying 8).isSome = true := by kernel_rfl
theorem agg8 : aggT Try.prog 8 = some 4 := by kernel_rfl
theorem fld8_0 : fieldT Try.prog 8 0 = some 0 := by kernel_rfl
theorem fld8_1 : fieldT Try.prog 8 1 = some 1 := by kernel_rfl
theorem fld8_2 : fieldT Try.prog 8 2 = some 2 := by kernel_rfl
theorem fld8_3 : fieldT Try.prog 8 3 = some 3 := by kernel_rfl
theorem size8 : (Try.prog.info? 8).map (·.size) = some 4 := by kernel_rfl
theorem zero8 : zeroT Try.prog 8 = some (Value.agg #[(Value.int .i64 0), (Value.int .i64 0), (Value.bool false), (Value.int .u8 0)]) := by kernel_rfl
theorem us9 : (Try.prog.underlying 9).isSome = true := by kernel_rfl
theorem one9 : oneT Try.prog 9 = true := by kernel_rfl
theorem size9 : (Try.prog.info? 9).map (·.size) = some 1 := by kernel_rfl
theorem zero9 : zeroT Try.prog 9 = some (Value.string (bs [])) := by kernel_rfl
theorem us10 : (Try.prog.underlying 10).isSome = true := by kernel_rfl
theorem one10 : oneT Try.prog 10 = true := by kernel_rfl
theorem size10 : (Try.prog.info? 10).map (·.size) = some 1 := by kernel_rfl
theorem zero10 : zeroT Try.prog 10 = some (Value.string (bs [])) := by kernel_rfl
theorem us11 : (Try.prog.underlying 11).isSome = true := by kernel_rfl
theorem one11 : oneT Try.prog 11 = true := by kernel_rfl
theorem size11 : (Try.prog.info? 11).map (·.size) = some 1 := by kernel_rfl
theorem zero11 : zeroT Try.prog 11 = some (Value.string (bs [])) := by kernel_rfl
theorem us12 : (Try.prog.underlying 12).isSome = true := by kernel_rfl
theorem one12 : oneT Try.prog 12 = true := by kernel_rfl
theorem size12 : (Try.prog.info? 12).map (·.size) = some 1 := by kernel_rfl
theorem zero12 : zeroT Try.prog 12 = some (Value.int .u64 0) := by kernel_rfl
theorem us13 : (Try.prog.underlying 13).isSome = true := by kernel_rfl
theorem agg13 : aggT Try.prog 13 = some 2 := by kernel_rfl
theorem fld13_0 : fieldT Try.prog 13 0 = some 0 := by kernel_rfl
theorem fld13_1 : fieldT Try.prog 13 1 = some 1 := by kernel_rfl
theorem size13 : (Try.prog.info? 13).map (·.size) = some 2 := by kernel_rfl
theorem zero13 : zeroT Try.prog 13 = some (Value.agg #[(Value.string (bs [])), (Value.int .u64 0)]) := by kernel_rfl
theorem us14 : (Try.prog.underlying 14).isSome = true := by kernel_rfl
theorem agg14 : aggT Try.prog 14 = some 2 := by kernel_rfl
theorem fld14_0 : fieldT Try.prog 14 0 = some 0 := by kernel_rfl
theorem fld14_1 : fieldT Try.prog 14 1 = some 1 := by kernel_rfl
theorem size14 : (Try.prog.info? 14).map (·.size) = some 2 := by kernel_rfl
theorem zero14 : zeroT Try.prog 14 = some (Value.agg #[(Value.string (bs [])), (Value.int .u64 0)]) := by kernel_rfl
theorem us15 : (Try.prog.underlying 15).isSome = true := by kernel_rfl
theorem one15 : oneT Try.prog 15 = true := by kernel_rfl
theorem ptrt15 : Try.prog.underlying 15 = some (.pointer (Try.prog.pointee 15)) := by kernel_rfl
theorem size15 : (Try.prog.info? 15).map (·.size) = some 1 := by kernel_rfl
theorem zero15 : zeroT Try.prog 15 = some (Value.pointer none) := by kernel_rfl
theorem us16 : (Try.prog.underlying 16).isSome = true := by kernel_rfl
theorem one16 : oneT Try.prog 16 = true := by kernel_rfl
theorem ptrt16 : Try.prog.underlying 16 = some (.pointer (Try.prog.pointee 16)) := by kernel_rfl
theorem size16 : (Try.prog.info? 16).map (·.size) = some 1 := by kernel_rfl
theorem zero16 : zeroT Try.prog 16 = some (Value.pointer none) := by kernel_rfl
theorem us17 : (Try.prog.underlying 17).isSome = true := by kernel_rfl
theorem one17 : oneT Try.prog 17 = true := by kernel_rfl
theorem ptrt17 : Try.prog.underlying 17 = some (.pointer (Try.prog.pointee 17)) := by kernel_rfl
theorem size17 : (Try.prog.info? 17).map (·.size) = some 1 := by kernel_rfl
theorem zero17 : zeroT Try.prog 17 = some (Value.pointer none) := by kernel_rfl
theorem us18 : (Try.prog.underlying 18).isSome = true := by kernel_rfl
theorem agg18 : aggT Try.prog 18 = some 1 := by kernel_rfl
theorem fld18_0 : fieldT Try.prog 18 0 = some 0 := by kernel_rfl
theorem size18 : (Try.prog.info? 18).map (·.size) = some 1 := by kernel_rfl
theorem zero18 : zeroT Try.prog 18 = some (Value.agg #[(Value.pointer none)]) := by kernel_rfl
theorem us19 : (Try.prog.underlying 19).isSome = true := by kernel_rfl
theorem agg19 : aggT Try.prog 19 = some 1 := by kernel_rfl
theorem fld19_0 : fieldT Try.prog 19 0 = some 0 := by kernel_rfl
theorem size19 : (Try.prog.info? 19).map (·.size) = some 1 := by kernel_rfl
theorem zero19 : zeroT Try.prog 19 = some (Value.agg #[(Value.pointer none)]) := by kernel_rfl
theorem us21 : (Try.prog.underlying 21).isSome = true := by kernel_rfl
theorem one21 : oneT Try.prog 21 = true := by kernel_rfl
theorem size21 : (Try.prog.info? 21).map (·.size) = some 1 := by kernel_rfl
theorem zero21 : zeroT Try.prog 21 = some (Value.int .i32 0) := by kernel_rfl
theorem us22 : (Try.prog.underlying 22).isSome = true := by kernel_rfl
theorem one22 : oneT Try.prog 22 = true := by kernel_rfl
theorem slt22 : SlT Try.prog 22 5 (Value.int .u8 0) 1 1 := ⟨Try.underlying22, by kernel_rfl, rfl, by decide⟩
theorem size22 : (Try.prog.info? 22).map (·.size) = some 1 := by kernel_rfl
theorem zero22 : zeroT Try.prog 22 = some (Value.slice none 0 0) := by kernel_rfl
theorem us23 : (Try.prog.underlying 23).isSome = true := by kernel_rfl
theorem one23 : oneT Try.prog 23 = true := by kernel_rfl
theorem size23 : (Try.prog.info? 23).map (·.size) = some 1 := by kernel_rfl
theorem us24 : (Try.prog.underlying 24).isSome = true := by kernel_rfl
theorem one24 : oneT Try.prog 24 = true := by kernel_rfl
theorem ptrt24 : Try.prog.underlying 24 = some (.pointer (Try.prog.pointee 24)) := by kernel_rfl
theorem size24 : (Try.prog.info? 24).map (·.size) = some 1 := by kernel_rfl
theorem zero24 : zeroT Try.prog 24 = some (Value.pointer none) := by kernel_rfl
theorem us25 : (Try.prog.underlying 25).isSome = true := by kernel_rfl
theorem one25 : oneT Try.prog 25 = true := by kernel_rfl
theorem size25 : (Try.prog.info? 25).map (·.size) = some 1 := by kernel_rfl
theorem us26 : (Try.prog.underlying 26).isSome = true := by kernel_rfl
theorem one26 : oneT Try.prog 26 = true := by kernel_rfl
theorem slt26 : SlT Try.prog 26 9 (Value.string (bs [])) 1 16 := ⟨Try.underlying26, by kernel_rfl, rfl, by decide⟩
theorem size26 : (Try.prog.info? 26).map (·.size) = some 1 := by kernel_rfl
theorem zero26 : zeroT Try.prog 26 = some (Value.slice none 0 0) := by kernel_rfl
theorem us27 : (Try.prog.underlying 27).isSome = true := by kernel_rfl
theorem one27 : oneT Try.prog 27 = true := by kernel_rfl
theorem size27 : (Try.prog.info? 27).map (·.size) = some 1 := by kernel_rfl
theorem us29 : (Try.prog.underlying 29).isSome = true := by kernel_rfl
theorem one29 : oneT Try.prog 29 = true := by kernel_rfl
theorem size29 : (Try.prog.info? 29).map (·.size) = some 1 := by kernel_rfl
theorem us30 : (Try.prog.underlying 30).isSome = true := by kernel_rfl
theorem one30 : oneT Try.prog 30 = true := by kernel_rfl
theorem size30 : (Try.prog.info? 30).map (·.size) = some 1 := by kernel_rfl
theorem us31 : (Try.prog.underlying 31).isSome = true := by kernel_rfl
theorem one31 : oneT Try.prog 31 = true := by kernel_rfl
theorem size31 : (Try.prog.info? 31).map (·.size) = some 1 := by kernel_rfl
theorem us32 : (Try.prog.underlying 32).isSome = true := by kernel_rfl
theorem one32 : oneT Try.prog 32 = true := by kernel_rfl
theorem size32 : (Try.prog.info? 32).map (·.size) = some 1 := by kernel_rfl
theorem us33 : (Try.prog.underlying 33).isSome = true := by kernel_rfl
theorem one33 : oneT Try.prog 33 = true := by kernel_rfl
theorem ptrt33 : Try.prog.underlying 33 = some (.pointer (Try.prog.pointee 33)) := by kernel_rfl
theorem size33 : (Try.prog.info? 33).map (·.size) = some 1 := by kernel_rfl
theorem zero33 : zeroT Try.prog 33 = some (Value.pointer none) := by kernel_rfl
theorem us34 : (Try.prog.underlying 34).isSome = true := by kernel_rfl
theorem one34 : oneT Try.prog 34 = true := by kernel_rfl
theorem size34 : (Try.prog.info? 34).map (·.size) = some 1 := by kernel_rfl
theorem zero34 : zeroT Try.prog 34 = some (Value.chan none) := by kernel_rfl
theorem us35 : (Try.prog.underlying 35).isSome = true := by kernel_rfl
theorem one35 : oneT Try.prog 35 = true := by kernel_rfl
theorem slt35 : SlT Try.prog 35 3 (Value.int .i64 0) 1 8 := ⟨Try.underlying35, by kernel_rfl, rfl, by decide⟩
theorem size35 : (Try.prog.info? 35).map (·.size) = some 1 := by kernel_rfl
theorem zero35 : zeroT Try.prog 35 = some (Value.slice none 0 0) := by kernel_rfl
theorem us36 : (Try.prog.underlying 36).isSome = true := by kernel_rfl
theorem agg36 : aggT Try.prog 36 = some 2 := by kernel_rfl
theorem fld36_0 : fieldT Try.prog 36 0 = some 0 := by kernel_rfl
theorem fld36_1 : fieldT Try.prog 36 1 = some 1 := by kernel_rfl
theorem size36 : (Try.prog.info? 36).map (·.size) = some 2 := by kernel_rfl
theorem zero36 : zeroT Try.prog 36 = some (Value.agg #[(Value.chan none), (Value.slice none 0 0)]) := by kernel_rfl
theorem us37 : (Try.prog.underlying 37).isSome = true := by kernel_rfl
theorem agg37 : aggT Try.prog 37 = some 2 := by kernel_rfl
theorem fld37_0 : fieldT Try.prog 37 0 = some 0 := by kernel_rfl
theorem fld37_1 : fieldT Try.prog 37 1 = some 1 := by kernel_rfl
theorem size37 : (Try.prog.info? 37).map (·.size) = some 2 := by kernel_rfl
theorem zero37 : zeroT Try.prog 37 = some (Value.agg #[(Value.chan none), (Value.slice none 0 0)]) := by kernel_rfl
theorem us39 : (Try.prog.underlying 39).isSome = true := by kernel_rfl
theorem one39 : oneT Try.prog 39 = true := by kernel_rfl
theorem size39 : (Try.prog.info? 39).map (·.size) = some 1 := by kernel_rfl
theorem us40 : (Try.prog.underlying 40).isSome = true := by kernel_rfl
theorem one40 : oneT Try.prog 40 = true := by kernel_rfl
theorem size40 : (Try.prog.info? 40).map (·.size) = some 1 := by kernel_rfl
theorem us41 : (Try.prog.underlying 41).isSome = true := by kernel_rfl
theorem one41 : oneT Try.prog 41 = true := by kernel_rfl
theorem size41 : (Try.prog.info? 41).map (·.size) = some 1 := by kernel_rfl
theorem us42 : (Try.prog.underlying 42).isSome = true := by kernel_rfl
theorem one42 : oneT Try.prog 42 = true := by kernel_rfl
theorem size42 : (Try.prog.info? 42).map (·.size) = some 1 := by kernel_rfl
theorem us43 : (Try.prog.underlying 43).isSome = true := by kernel_rfl
theorem one43 : oneT Try.prog 43 = true := by kernel_rfl
theorem size43 : (Try.prog.info? 43).map (·.size) = some 1 := by kernel_rfl
theorem us44 : (Try.prog.underlying 44).isSome = true := by kernel_rfl
theorem one44 : oneT Try.prog 44 = true := by kernel_rfl
theorem slt44 : SlT Try.prog 44 45 (Value.slice none 0 0) 1 24 := ⟨Try.underlying44, by kernel_rfl, rfl, by decide⟩
theorem size44 : (Try.prog.info? 44).map (·.size) = some 1 := by kernel_rfl
theorem zero44 : zeroT Try.prog 44 = some (Value.slice none 0 0) := by kernel_rfl
theorem us45 : (Try.prog.underlying 45).isSome = true := by kernel_rfl
theorem one45 : oneT Try.prog 45 = true := by kernel_rfl
theorem slt45 : SlT Try.prog 45 46 (Value.int .u16 0) 1 2 := ⟨Try.underlying45, by kernel_rfl, rfl, by decide⟩
theorem size45 : (Try.prog.info? 45).map (·.size) = some 1 := by kernel_rfl
theorem zero45 : zeroT Try.prog 45 = some (Value.slice none 0 0) := by kernel_rfl
theorem us46 : (Try.prog.underlying 46).isSome = true := by kernel_rfl
theorem one46 : oneT Try.prog 46 = true := by kernel_rfl
theorem size46 : (Try.prog.info? 46).map (·.size) = some 1 := by kernel_rfl
theorem zero46 : zeroT Try.prog 46 = some (Value.int .u16 0) := by kernel_rfl
theorem us47 : (Try.prog.underlying 47).isSome = true := by kernel_rfl
theorem one47 : oneT Try.prog 47 = true := by kernel_rfl
theorem size47 : (Try.prog.info? 47).map (·.size) = some 1 := by kernel_rfl
theorem us48 : (Try.prog.underlying 48).isSome = true := by kernel_rfl
theorem one48 : oneT Try.prog 48 = true := by kernel_rfl
theorem size48 : (Try.prog.info? 48).map (·.size) = some 1 := by kernel_rfl
theorem us49 : (Try.prog.underlying 49).isSome = true := by kernel_rfl
theorem one49 : oneT Try.prog 49 = true := by kernel_rfl
theorem slt49 : SlT Try.prog 49 54 (Value.slice none 0 0) 1 24 := ⟨Try.underlying49, by kernel_rfl, rfl, by decide⟩
theorem size49 : (Try.prog.info? 49).map (·.size) = some 1 := by kernel_rfl
theorem zero49 : zeroT Try.prog 49 = some (Value.slice none 0 0) := by kernel_rfl
theorem us50 : (Try.prog.underlying 50).isSome = true := by kernel_rfl
theorem one50 : oneT Try.prog 50 = true := by kernel_rfl
theorem ptrt50 : Try.prog.underlying 50 = some (.pointer (Try.prog.pointee 50)) := by kernel_rfl
theorem size50 : (Try.prog.info? 50).map (·.size) = some 1 := by kernel_rfl
theorem zero50 : zeroT Try.prog 50 = some (Value.pointer none) := by kernel_rfl
theorem us51 : (Try.prog.underlying 51).isSome = true := by kernel_rfl
theorem one51 : oneT Try.prog 51 = true := by kernel_rfl
theorem size51 : (Try.prog.info? 51).map (·.size) = some 1 := by kernel_rfl
theorem zero51 : zeroT Try.prog 51 = some (Value.int .i64 0) := by kernel_rfl
theorem us53 : (Try.prog.underlying 53).isSome = true := by kernel_rfl
theorem one53 : oneT Try.prog 53 = true := by kernel_rfl
theorem size53 : (Try.prog.info? 53).map (·.size) = some 1 := by kernel_rfl
theorem us54 : (Try.prog.underlying 54).isSome = true := by kernel_rfl
theorem one54 : oneT Try.prog 54 = true := by kernel_rfl
theorem slt54 : SlT Try.prog 54 46 (Value.int .u16 0) 1 2 := ⟨Try.underlying54, by kernel_rfl, rfl, by decide⟩
theorem size54 : (Try.prog.info? 54).map (·.size) = some 1 := by kernel_rfl
theorem zero54 : zeroT Try.prog 54 = some (Value.slice none 0 0) := by kernel_rfl
theorem us55 : (Try.prog.underlying 55).isSome = true := by kernel_rfl
theorem agg55 : aggT Try.prog 55 = some 2 := by kernel_rfl
theorem fld55_0 : fieldT Try.prog 55 0 = some 0 := by kernel_rfl
theorem fld55_1 : fieldT Try.prog 55 1 = some 1 := by kernel_rfl
theorem size55 : (Try.prog.info? 55).map (·.size) = some 2 := by kernel_rfl
theorem zero55 : zeroT Try.prog 55 = some (Value.agg #[(Value.slice none 0 0), (Value.slice none 0 0)]) := by kernel_rfl
theorem us56 : (Try.prog.underlying 56).isSome = true := by kernel_rfl
theorem agg56 : aggT Try.prog 56 = some 2 := by kernel_rfl
theorem fld56_0 : fieldT Try.prog 56 0 = some 0 := by kernel_rfl
theorem fld56_1 : fieldT Try.prog 56 1 = some 1 := by kernel_rfl
theorem size56 : (Try.prog.info? 56).map (·.size) = some 2 := by kernel_rfl
theorem zero56 : zeroT Try.prog 56 = some (Value.agg #[(Value.slice none 0 0), (Value.slice none 0 0)]) := by kernel_rfl
theorem us57 : (Try.prog.underlying 57).isSome = true := by kernel_rfl
theorem one57 : oneT Try.prog 57 = true := by kernel_rfl
theorem slt57 : SlT Try.prog 57 56 (Value.agg #[(Value.slice none 0 0), (Value.slice none 0 0)]) 2 48 := ⟨Try.underlying57, by kernel_rfl, rfl, by decide⟩
theorem size57 : (Try.prog.info? 57).map (·.size) = some 1 := by kernel_rfl
theorem zero57 : zeroT Try.prog 57 = some (Value.slice none 0 0) := by kernel_rfl
theorem us58 : (Try.prog.underlying 58).isSome = true := by kernel_rfl
theorem agg58 : aggT Try.prog 58 = some 2 := by kernel_rfl
theorem fld58_0 : fieldT Try.prog 58 0 = some 0 := by kernel_rfl
theorem fld58_1 : fieldT Try.prog 58 1 = some 1 := by kernel_rfl
theorem size58 : (Try.prog.info? 58).map (·.size) = some 2 := by kernel_rfl
theorem zero58 : zeroT Try.prog 58 = some (Value.agg #[(Value.slice none 0 0), (Value.int .i64 0)]) := by kernel_rfl
theorem us59 : (Try.prog.underlying 59).isSome = true := by kernel_rfl
theorem agg59 : aggT Try.prog 59 = some 2 := by kernel_rfl
theorem fld59_0 : fieldT Try.prog 59 0 = some 0 := by kernel_rfl
theorem fld59_1 : fieldT Try.prog 59 1 = some 1 := by kernel_rfl
theorem size59 : (Try.prog.info? 59).map (·.size) = some 2 := by kernel_rfl
theorem zero59 : zeroT Try.prog 59 = some (Value.agg #[(Value.slice none 0 0), (Value.int .i64 0)]) := by kernel_rfl
theorem us60 : (Try.prog.underlying 60).isSome = true := by kernel_rfl
theorem one60 : oneT Try.prog 60 = true := by kernel_rfl
theorem size60 : (Try.prog.info? 60).map (·.size) = some 1 := by kernel_rfl
theorem us61 : (Try.prog.underlying 61).isSome = true := by kernel_rfl
theorem one61 : oneT Try.prog 61 = true := by kernel_rfl
theorem size61 : (Try.prog.info? 61).map (·.size) = some 1 := by kernel_rfl
theorem zero61 : zeroT Try.prog 61 = some (Value.int .u64 0) := by kernel_rfl
theorem us62 : (Try.prog.underlying 62).isSome = true := by kernel_rfl
theorem one62 : oneT Try.prog 62 = true := by kernel_rfl
theorem size62 : (Try.prog.info? 62).map (·.size) = some 1 := by kernel_rfl
theorem us63 : (Try.prog.underlying 63).isSome = true := by kernel_rfl
theorem one63 : oneT Try.prog 63 = true := by kernel_rfl
theorem size63 : (Try.prog.info? 63).map (·.size) = some 1 := by kernel_rfl
theorem us64 : (Try.prog.underlying 64).isSome = true := by kernel_rfl
theorem one64 : oneT Try.prog 64 = true := by kernel_rfl
theorem size64 : (Try.prog.info? 64).map (·.size) = some 1 := by kernel_rfl
theorem us65 : (Try.prog.underlying 65).isSome = true := by kernel_rfl
theorem one65 : oneT Try.prog 65 = true := by kernel_rfl
theorem ptrt65 : Try.prog.underlying 65 = some (.pointer (Try.prog.pointee 65)) := by kernel_rfl
theorem size65 : (Try.prog.info? 65).map (·.size) = some 1 := by kernel_rfl
theorem zero65 : zeroT Try.prog 65 = some (Value.pointer none) := by kernel_rfl
theorem us67 : (Try.prog.underlying 67).isSome = true := by kernel_rfl
theorem one67 : oneT Try.prog 67 = true := by kernel_rfl
theorem size67 : (Try.prog.info? 67).map (·.size) = some 1 := by kernel_rfl
theorem us68 : (Try.prog.underlying 68).isSome = true := by kernel_rfl
theorem one68 : oneT Try.prog 68 = true := by kernel_rfl
theorem ptrt68 : Try.prog.underlying 68 = some (.pointer (Try.prog.pointee 68)) := by kernel_rfl
theorem size68 : (Try.prog.info? 68).map (·.size) = some 1 := by kernel_rfl
theorem zero68 : zeroT Try.prog 68 = some (Value.pointer none) := by kernel_rfl
theorem us69 : (Try.prog.underlying 69).isSome = true := by kernel_rfl
theorem one69 : oneT Try.prog 69 = true := by kernel_rfl
theorem slt69 : SlT Try.prog 69 75 (Value.agg #[(Value.slice none 0 0), (Value.slice none 0 0), (Value.slice none 0 0), (Value.bool false)]) 4 80 := ⟨Try.underlying69, by kernel_rfl, rfl, by decide⟩
theorem size69 : (Try.prog.info? 69).map (·.size) = some 1 := by kernel_rfl
theorem zero69 : zeroT Try.prog 69 = some (Value.slice none 0 0) := by kernel_rfl
theorem us70 : (Try.prog.underlying 70).isSome = true := by kernel_rfl
theorem one70 : oneT Try.prog 70 = true := by kernel_rfl
theorem slt70 : SlT Try.prog 70 152 (Value.agg #[(Value.slice none 0 0), (Value.int .u64 0)]) 2 32 := ⟨Try.underlying70, by kernel_rfl, rfl, by decide⟩
theorem size70 : (Try.prog.info? 70).map (·.size) = some 1 := by kernel_rfl
theorem zero70 : zeroT Try.prog 70 = some (Value.slice none 0 0) := by kernel_rfl
theorem us71 : (Try.prog.underlying 71).isSome = true := by kernel_rfl
theorem agg71 : aggT Try.prog 71 = some 3 := by kernel_rfl
theorem fld71_0 : fieldT Try.prog 71 0 = some 0 := by kernel_rfl
theorem fld71_1 : fieldT Try.prog 71 1 = some 1 := by kernel_rfl
theorem fld71_2 : fieldT Try.prog 71 2 = some 2 := by kernel_rfl
theorem size71 : (Try.prog.info? 71).map (·.size) = some 3 := by kernel_rfl
theorem zero71 : zeroT Try.prog 71 = some (Value.agg #[(Value.pointer none), (Value.slice none 0 0), (Value.slice none 0 0)]) := by kernel_rfl
theorem us72 : (Try.prog.underlying 72).isSome = true := by kernel_rfl
theorem agg72 : aggT Try.prog 72 = some 3 := by kernel_rfl
theorem fld72_0 : fieldT Try.prog 72 0 = some 0 := by kernel_rfl
theorem fld72_1 : fieldT Try.prog 72 1 = some 1 := by kernel_rfl
theorem fld72_2 : fieldT Try.prog 72 2 = some 2 := by kernel_rfl
theorem size72 : (Try.prog.info? 72).map (·.size) = some 3 := by kernel_rfl
theorem zero72 : zeroT Try.prog 72 = some (Value.agg #[(Value.pointer none), (Value.slice none 0 0), (Value.slice none 0 0)]) := by kernel_rfl
theorem us73 : (Try.prog.underlying 73).isSome = true := by kernel_rfl
theorem one73 : oneT Try.prog 73 = true := by kernel_rfl
theorem size73 : (Try.prog.info? 73).map (·.size) = some 1 := by kernel_rfl
theorem us74 : (Try.prog.underlying 74).isSome = true := by kernel_rfl
theorem agg74 : aggT Try.prog 74 = some 4 := by kernel_rfl
theorem fld74_0 : fieldT Try.prog 74 0 = some 0 := by kernel_rfl
theorem fld74_1 : fieldT Try.prog 74 1 = some 1 := by kernel_rfl
theorem fld74_2 : fieldT Try.prog 74 2 = some 2 := by kernel_rfl
theorem fld74_3 : fieldT Try.prog 74 3 = some 3 := by kernel_rfl
theorem size74 : (Try.prog.info? 74).map (·.size) = some 4 := by kernel_rfl
theorem zero74 : zeroT Try.prog 74 = some (Value.agg #[(Value.slice none 0 0), (Value.slice none 0 0), (Value.slice none 0 0), (Value.bool false)]) := by kernel_rfl
theorem us75 : (Try.prog.underlying 75).isSome = true := by kernel_rfl
theorem agg75 : aggT Try.prog 75 = some 4 := by kernel_rfl
theorem fld75_0 : fieldT Try.prog 75 0 = some 0 := by kernel_rfl
theorem fld75_1 : fieldT Try.prog 75 1 = some 1 := by kernel_rfl
theorem fld75_2 : fieldT Try.prog 75 2 = some 2 := by kernel_rfl
theorem fld75_3 : fieldT Try.prog 75 3 = some 3 := by kernel_rfl
theorem size75 : (Try.prog.info? 75).map (·.size) = some 4 := by kernel_rfl
theorem zero75 : zeroT Try.prog 75 = some (Value.agg #[(Value.slice none 0 0), (Value.slice none 0 0), (Value.slice none 0 0), (Value.bool false)]) := by kernel_rfl
theorem us76 : (Try.prog.underlying 76).isSome = true := by kernel_rfl
theorem one76 : oneT Try.prog 76 = true := by kernel_rfl
theorem size76 : (Try.prog.info? 76).map (·.size) = some 1 := by kernel_rfl
theorem us77 : (Try.prog.underlying 77).isSome = true := by kernel_rfl
theorem one77 : oneT Try.prog 77 = true := by kernel_rfl
theorem size77 : (Try.prog.info? 77).map (·.size) = some 1 := by kernel_rfl
theorem us78 : (Try.prog.underlying 78).isSome = true := by kernel_rfl
theorem agg78 : aggT Try.prog 78 = some 3 := by kernel_rfl
theorem arr78 : arrT Try.prog 78 = some (3, 1) := by kernel_rfl
theorem size78 : (Try.prog.info? 78).map (·.size) = some 3 := by kernel_rfl
theorem zero78 : zeroT Try.prog 78 = some (Value.agg #[(Value.int .i64 0), (Value.int .i64 0), (Value.int .i64 0)]) := by kernel_rfl
theorem us79 : (Try.prog.underlying 79).isSome = true := by kernel_rfl
theorem one79 : oneT Try.prog 79 = true := by kernel_rfl
theorem size79 : (Try.prog.info? 79).map (·.size) = some 1 := by kernel_rfl
theorem us80 : (Try.prog.underlying 80).isSome = true := by kernel_rfl
theorem one80 : oneT Try.prog 80 = true := by kernel_rfl
theorem size80 : (Try.prog.info? 80).map (·.size) = some 1 := by kernel_rfl
theorem us81 : (Try.prog.underlying 81).isSome = true := by kernel_rfl
theorem one81 : oneT Try.prog 81 = true := by kernel_rfl
theorem size81 : (Try.prog.info? 81).map (·.size) = some 1 := by kernel_rfl
theorem us82 : (Try.prog.underlying 82).isSome = true := by kernel_rfl
theorem one82 : oneT Try.prog 82 = true := by kernel_rfl
theorem slt82 : SlT Try.prog 82 84 (Value.agg #[(Value.int .i64 0), (Value.int .i64 0), (Value.string (bs [])), (Value.slice none 0 0)]) 4 56 := ⟨Try.underlying82, by kernel_rfl, rfl, by decide⟩
theorem size82 : (Try.prog.info? 82).map (·.size) = some 1 := by kernel_rfl
theorem zero82 : zeroT Try.prog 82 = some (Value.slice none 0 0) := by kernel_rfl
theorem us83 : (Try.prog.underlying 83).isSome = true := by kernel_rfl
theorem agg83 : aggT Try.prog 83 = some 4 := by kernel_rfl
theorem fld83_0 : fieldT Try.prog 83 0 = some 0 := by kernel_rfl
theorem fld83_1 : fieldT Try.prog 83 1 = some 1 := by kernel_rfl
theorem fld83_2 : fieldT Try.prog 83 2 = some 2 := by kernel_rfl
theorem fld83_3 : fieldT Try.prog 83 3 = some 3 := by kernel_rfl
theorem size83 : (Try.prog.info? 83).map (·.size) = some 4 := by kernel_rfl
theorem zero83 : zeroT Try.prog 83 = some (Value.agg #[(Value.int .i64 0), (Value.int .i64 0), (Value.string (bs [])), (Value.slice none 0 0)]) := by kernel_rfl
theorem us84 : (Try.prog.underlying 84).isSome = true := by kernel_rfl
theorem agg84 : aggT Try.prog 84 = some 4 := by kernel_rfl
theorem fld84_0 : fieldT Try.prog 84 0 = some 0 := by kernel_rfl
theorem fld84_1 : fieldT Try.prog 84 1 = some 1 := by kernel_rfl
theorem fld84_2 : fieldT Try.prog 84 2 = some 2 := by kernel_rfl
theorem fld84_3 : fieldT Try.prog 84 3 = some 3 := by kernel_rfl
theorem size84 : (Try.prog.info? 84).map (·.size) = some 4 := by kernel_rfl
theorem zero84 : zeroT Try.prog 84 = some (Value.agg #[(Value.int .i64 0), (Value.int .i64 0), (Value.string (bs [])), (Value.slice none 0 0)]) := by kernel_rfl
theorem us85 : (Try.prog.underlying 85).isSome = true := by kernel_rfl
theorem one85 : oneT Try.prog 85 = true := by kernel_rfl
theorem size85 : (Try.prog.info? 85).map (·.size) = some 1 := by kernel_rfl
theorem us87 : (Try.prog.underlying 87).isSome = true := by kernel_rfl
theorem one87 : oneT Try.prog 87 = true := by kernel_rfl
theorem size87 : (Try.prog.info? 87).map (·.size) = some 1 := by kernel_rfl
theorem us88 : (Try.prog.underlying 88).isSome = true := by kernel_rfl
theorem one88 : oneT Try.prog 88 = true := by kernel_rfl
theorem size88 : (Try.prog.info? 88).map (·.size) = some 1 := by kernel_rfl
theorem us89 : (Try.prog.underlying 89).isSome = true := by kernel_rfl
theorem one89 : oneT Try.prog 89 = true := by kernel_rfl
theorem size89 : (Try.prog.info? 89).map (·.size) = some 1 := by kernel_rfl
theorem us90 : (Try.prog.underlying 90).isSome = true := by kernel_rfl
theorem one90 : oneT Try.prog 90 = true := by kernel_rfl
theorem size90 : (Try.prog.info? 90).map (·.size) = some 1 := by kernel_rfl
theorem us91 : (Try.prog.underlying 91).isSome = true := by kernel_rfl
theorem one91 : oneT Try.prog 91 = true := by kernel_rfl
theorem size91 : (Try.prog.info? 91).map (·.size) = some 1 := by kernel_rfl
theorem us92 : (Try.prog.underlying 92).isSome = true := by kernel_rfl
theorem one92 : oneT Try.prog 92 = true := by kernel_rfl
theorem size92 : (Try.prog.info? 92).map (·.size) = some 1 := by kernel_rfl
theorem us93 : (Try.prog.underlying 93).isSome = true := by kernel_rfl
theorem one93 : oneT Try.prog 93 = true := by kernel_rfl
theorem ptrt93 : Try.prog.underlying 93 = some (.pointer (Try.prog.pointee 93)) := by kernel_rfl
theorem size93 : (Try.prog.info? 93).map (·.size) = some 1 := by kernel_rfl
theorem zero93 : zeroT Try.prog 93 = some (Value.pointer none) := by kernel_rfl
theorem us94 : (Try.prog.underlying 94).isSome = true := by kernel_rfl
theorem one94 : oneT Try.prog 94 = true := by kernel_rfl
theorem size94 : (Try.prog.info? 94).map (·.size) = some 1 := by kernel_rfl
theorem us95 : (Try.prog.underlying 95).isSome = true := by kernel_rfl
theorem one95 : oneT Try.prog 95 = true := by kernel_rfl
theorem size95 : (Try.prog.info? 95).map (·.size) = some 1 := by kernel_rfl
theorem us97 : (Try.prog.underlying 97).isSome = true := by kernel_rfl
theorem one97 : oneT Try.prog 97 = true := by kernel_rfl
theorem size97 : (Try.prog.info? 97).map (·.size) = some 1 := by kernel_rfl
theorem us98 : (Try.prog.underlying 98).isSome = true := by kernel_rfl
theorem one98 : oneT Try.prog 98 = true := by kernel_rfl
theorem size98 : (Try.prog.info? 98).map (·.size) = some 1 := by kernel_rfl
theorem us99 : (Try.prog.underlying 99).isSome = true := by kernel_rfl
theorem one99 : oneT Try.prog 99 = true := by kernel_rfl
theorem slt99 : SlT Try.prog 99 103 (Value.agg #[(Value.int .i64 0), (Value.int .i64 0), (Value.slice none 0 0), (Value.int .u64 0), (Value.slice none 0 0), (Value.string (bs []))]) 6 88 := ⟨Try.underlying99, by kernel_rfl, rfl, by decide⟩
theorem size99 : (Try.prog.info? 99).map (·.size) = some 1 := by kernel_rfl
theorem zero99 : zeroT Try.prog 99 = some (Value.slice none 0 0) := by kernel_rfl
theorem us100 : (Try.prog.underlying 100).isSome = true := by kernel_rfl
theorem agg100 : aggT Try.prog 100 = some 8 := by kernel_rfl
theorem arr100 : arrT Try.prog 100 = some (8, 1) := by kernel_rfl
theorem size100 : (Try.prog.info? 100).map (·.size) = some 8 := by kernel_rfl
theorem zero100 : zeroT Try.prog 100 = some (Value.agg #[(Value.bool false), (Value.bool false), (Value.bool false), (Value.bool false), (Value.bool false), (Value.bool false), (Value.bool false), (Value.bool false)]) := by kernel_rfl
theorem us101 : (Try.prog.underlying 101).isSome = true := by kernel_rfl
theorem agg101 : aggT Try.prog 101 = some 8 := by kernel_rfl
theorem arr101 : arrT Try.prog 101 = some (8, 1) := by kernel_rfl
theorem size101 : (Try.prog.info? 101).map (·.size) = some 8 := by kernel_rfl
theorem zero101 : zeroT Try.prog 101 = some (Value.agg #[(Value.int .u64 0), (Value.int .u64 0), (Value.int .u64 0), (Value.int .u64 0), (Value.int .u64 0), (Value.int .u64 0), (Value.int .u64 0), (Value.int .u64 0)]) := by kernel_rfl
theorem us102 : (Try.prog.underlying 102).isSome = true := by kernel_rfl
theorem agg102 : aggT Try.prog 102 = some 6 := by kernel_rfl
theorem fld102_0 : fieldT Try.prog 102 0 = some 0 := by kernel_rfl
theorem fld102_1 : fieldT Try.prog 102 1 = some 1 := by kernel_rfl
theorem fld102_2 : fieldT Try.prog 102 2 = some 2 := by kernel_rfl
theorem fld102_3 : fieldT Try.prog 102 3 = some 3 := by kernel_rfl
theorem fld102_4 : fieldT Try.prog 102 4 = some 4 := by kernel_rfl
theorem fld102_5 : fieldT Try.prog 102 5 = some 5 := by kernel_rfl
theorem size102 : (Try.prog.info? 102).map (·.size) = some 6 := by kernel_rfl
theorem zero102 : zeroT Try.prog 102 = some (Value.agg #[(Value.int .i64 0), (Value.int .i64 0), (Value.slice none 0 0), (Value.int .u64 0), (Value.slice none 0 0), (Value.string (bs []))]) := by kernel_rfl
theorem us103 : (Try.prog.underlying 103).isSome = true := by kernel_rfl
theorem agg103 : aggT Try.prog 103 = some 6 := by kernel_rfl
theorem fld103_0 : fieldT Try.prog 103 0 = some 0 := by kernel_rfl
theorem fld103_1 : fieldT Try.prog 103 1 = some 1 := by kernel_rfl
theorem fld103_2 : fieldT Try.prog 103 2 = some 2 := by kernel_rfl
theorem fld103_3 : fieldT Try.prog 103 3 = some 3 := by kernel_rfl
theorem fld103_4 : fieldT Try.prog 103 4 = some 4 := by kernel_rfl
theorem fld103_5 : fieldT Try.prog 103 5 = some 5 := by kernel_rfl
theorem size103 : (Try.prog.info? 103).map (·.size) = some 6 := by kernel_rfl
theorem zero103 : zeroT Try.prog 103 = some (Value.agg #[(Value.int .i64 0), (Value.int .i64 0), (Value.slice none 0 0), (Value.int .u64 0), (Value.slice none 0 0), (Value.string (bs []))]) := by kernel_rfl
theorem us104 : (Try.prog.underlying 104).isSome = true := by kernel_rfl
theorem one104 : oneT Try.prog 104 = true := by kernel_rfl
theorem size104 : (Try.prog.info? 104).map (·.size) = some 1 := by kernel_rfl
theorem us105 : (Try.prog.underlying 105).isSome = true := by kernel_rfl
theorem one105 : oneT Try.prog 105 = true := by kernel_rfl
theorem size105 : (Try.prog.info? 105).map (·.size) = some 1 := by kernel_rfl
theorem us106 : (Try.prog.underlying 106).isSome = true := by kernel_rfl
theorem one106 : oneT Try.prog 106 = true := by kernel_rfl
theorem size106 : (Try.prog.info? 106).map (·.size) = some 1 := by kernel_rfl
theorem us107 : (Try.prog.underlying 107).isSome = true := by kernel_rfl
theorem agg107 : aggT Try.prog 107 = some 16 := by kernel_rfl
theorem arr107 : arrT Try.prog 107 = some (16, 1) := by kernel_rfl
theorem size107 : (Try.prog.info? 107).map (·.size) = some 16 := by kernel_rfl
theorem zero107 : zeroT Try.prog 107 = some (Value.agg #[(Value.slice none 0 0), (Value.slice none 0 0), (Value.slice none 0 0), (Value.slice none 0 0), (Value.slice none 0 0), (Value.slice none 0 0), (Value.slice none 0 0), (Value.slice none 0 0), (Value.slice none 0 0), (Value.slice none 0 0), (Value.slice none 0 0), (Value.slice none 0 0), (Value.slice none 0 0), (Value.slice none 0 0), (Value.slice none 0 0), (Value.slice none 0 0)]) := by kernel_rfl
theorem us108 : (Try.prog.underlying 108).isSome = true := by kernel_rfl
theorem agg108 : aggT Try.prog 108 = some 16 := by kernel_rfl
theorem arr108 : arrT Try.prog 108 = some (16, 1) := by kernel_rfl
theorem size108 : (Try.prog.info? 108).map (·.size) = some 16 := by kernel_rfl
theorem zero108 : zeroT Try.prog 108 = some (Value.agg #[(Value.bool false), (Value.bool false), (Value.bool false), (Value.bool false), (Value.bool false), (Value.bool false), (Value.bool false), (Value.bool false), (Value.bool false), (Value.bool false), (Value.bool false), (Value.bool false), (Value.bool false), (Value.bool false), (Value.bool false), (Value.bool false)]) := by kernel_rfl
theorem us109 : (Try.prog.underlying 109).isSome = true := by kernel_rfl
theorem one109 : oneT Try.prog 109 = true := by kernel_rfl
theorem size109 : (Try.prog.info? 109).map (·.size) = some 1 := by kernel_rfl
theorem us110 : (Try.prog.underlying 110).isSome = true := by kernel_rfl
theorem one110 : oneT Try.prog 110 = true := by kernel_rfl
theorem size110 : (Try.prog.info? 110).map (·.size) = some 1 := by kernel_rfl
theorem us112 : (Try.prog.underlying 112).isSome = true := by kernel_rfl
theorem one112 : oneT Try.prog 112 = true := by kernel_rfl
theorem size112 : (Try.prog.info? 112).map (·.size) = some 1 := by kernel_rfl
theorem us113 : (Try.prog.underlying 113).isSome = true := by kernel_rfl
theorem one113 : oneT Try.prog 113 = true := by kernel_rfl
theorem size113 : (Try.prog.info? 113).map (·.size) = some 1 := by kernel_rfl
theorem us114 : (Try.prog.underlying 114).isSome = true := by kernel_rfl
theorem one114 : oneT Try.prog 114 = true := by kernel_rfl
theorem ptrt114 : Try.prog.underlying 114 = some (.pointer (Try.prog.pointee 114)) := by kernel_rfl
theorem size114 : (Try.prog.info? 114).map (·.size) = some 1 := by kernel_rfl
theorem zero114 : zeroT Try.prog 114 = some (Value.pointer none) := by kernel_rfl
theorem us115 : (Try.prog.underlying 115).isSome = true := by kernel_rfl
theorem one115 : oneT Try.prog 115 = true := by kernel_rfl
theorem slt115 : SlT Try.prog 115 177 (Value.agg #[(Value.int .i64 0), (Value.slice none 0 0), (Value.int .u64 0), (Value.slice none 0 0), (Value.slice none 0 0), (Value.bool false)]) 6 96 := ⟨Try.underlying115, by kernel_rfl, rfl, by decide⟩
theorem size115 : (Try.prog.info? 115).map (·.size) = some 1 := by kernel_rfl
theorem zero115 : zeroT Try.prog 115 = some (Value.slice none 0 0) := by kernel_rfl
theorem us116 : (Try.prog.underlying 116).isSome = true := by kernel_rfl
theorem agg116 : aggT Try.prog 116 = some 1 := by kernel_rfl
theorem fld116_0 : fieldT Try.prog 116 0 = some 0 := by kernel_rfl
theorem size116 : (Try.prog.info? 116).map (·.size) = some 1 := by kernel_rfl
theorem zero116 : zeroT Try.prog 116 = some (Value.agg #[(Value.slice none 0 0)]) := by kernel_rfl
theorem us117 : (Try.prog.underlying 117).isSome = true := by kernel_rfl
theorem agg117 : aggT Try.prog 117 = some 1 := by kernel_rfl
theorem fld117_0 : fieldT Try.prog 117 0 = some 0 := by kernel_rfl
theorem size117 : (Try.prog.info? 117).map (·.size) = some 1 := by kernel_rfl
theorem zero117 : zeroT Try.prog 117 = some (Value.agg #[(Value.slice none 0 0)]) := by kernel_rfl
theorem us118 : (Try.prog.underlying 118).isSome = true := by kernel_rfl
theorem one118 : oneT Try.prog 118 = true := by kernel_rfl
theorem size118 : (Try.prog.info? 118).map (·.size) = some 1 := by kernel_rfl
theorem us119 : (Try.prog.underlying 119).isSome = true := by kernel_rfl
theorem one119 : oneT Try.prog 119 = true := by kernel_rfl
theorem size119 : (Try.prog.info? 119).map (·.size) = some 1 := by kernel_rfl
theorem zero119 : zeroT Try.prog 119 = some (Value.map none) := by kernel_rfl
theorem us120 : (Try.prog.underlying 120).isSome = true := by kernel_rfl
theorem agg120 : aggT Try.prog 120 = some 1 := by kernel_rfl
theorem fld120_0 : fieldT Try.prog 120 0 = some 0 := by kernel_rfl
theorem size120 : (Try.prog.info? 120).map (·.size) = some 1 := by kernel_rfl
theorem zero120 : zeroT Try.prog 120 = some (Value.agg #[(Value.map none)]) := by kernel_rfl
theorem us121 : (Try.prog.underlying 121).isSome = true := by kernel_rfl
theorem agg121 : aggT Try.prog 121 = some 1 := by kernel_rfl
theorem fld121_0 : fieldT Try.prog 121 0 = some 0 := by kernel_rfl
theorem size121 : (Try.prog.info? 121).map (·.size) = some 1 := by kernel_rfl
theorem zero121 : zeroT Try.prog 121 = some (Value.agg #[(Value.map none)]) := by kernel_rfl
theorem us122 : (Try.prog.underlying 122).isSome = true := by kernel_rfl
theorem one122 : oneT Try.prog 122 = true := by kernel_rfl
theorem size122 : (Try.prog.info? 122).map (·.size) = some 1 := by kernel_rfl
theorem us123 : (Try.prog.underlying 123).isSome = true := by kernel_rfl
theorem one123 : oneT Try.prog 123 = true := by kernel_rfl
theorem size123 : (Try.prog.info? 123).map (·.size) = some 1 := by kernel_rfl
theorem us124 : (Try.prog.underlying 124).isSome = true := by kernel_rfl
theorem one124 : oneT Try.prog 124 = true := by kernel_rfl
theorem size124 : (Try.prog.info? 124).map (·.size) = some 1 := by kernel_rfl
theorem zero124 : zeroT Try.prog 124 = some (Value.chan none) := by kernel_rfl
theorem us125 : (Try.prog.underlying 125).isSome = true := by kernel_rfl
theorem agg125 : aggT Try.prog 125 = some 2 := by kernel_rfl
theorem fld125_0 : fieldT Try.prog 125 0 = some 0 := by kernel_rfl
theorem fld125_1 : fieldT Try.prog 125 1 = some 1 := by kernel_rfl
theorem size125 : (Try.prog.info? 125).map (·.size) = some 2 := by kernel_rfl
theorem zero125 : zeroT Try.prog 125 = some (Value.agg #[(Value.chan none), (Value.slice none 0 0)]) := by kernel_rfl
theorem us126 : (Try.prog.underlying 126).isSome = true := by kernel_rfl
theorem agg126 : aggT Try.prog 126 = some 2 := by kernel_rfl
theorem fld126_0 : fieldT Try.prog 126 0 = some 0 := by kernel_rfl
theorem fld126_1 : fieldT Try.prog 126 1 = some 1 := by kernel_rfl
theorem size126 : (Try.prog.info? 126).map (·.size) = some 2 := by kernel_rfl
theorem zero126 : zeroT Try.prog 126 = some (Value.agg #[(Value.chan none), (Value.slice none 0 0)]) := by kernel_rfl
theorem us127 : (Try.prog.underlying 127).isSome = true := by kernel_rfl
theorem one127 : oneT Try.prog 127 = true := by kernel_rfl
theorem size127 : (Try.prog.info? 127).map (·.size) = some 1 := by kernel_rfl
theorem us128 : (Try.prog.underlying 128).isSome = true := by kernel_rfl
theorem one128 : oneT Try.prog 128 = true := by kernel_rfl
theorem size128 : (Try.prog.info? 128).map (·.size) = some 1 := by kernel_rfl
theorem us129 : (Try.prog.underlying 129).isSome = true := by kernel_rfl
theorem one129 : oneT Try.prog 129 = true := by kernel_rfl
theorem size129 : (Try.prog.info? 129).map (·.size) = some 1 := by kernel_rfl
theorem us130 : (Try.prog.underlying 130).isSome = true := by kernel_rfl
theorem one130 : oneT Try.prog 130 = true := by kernel_rfl
theorem size130 : (Try.prog.info? 130).map (·.size) = some 1 := by kernel_rfl
theorem us131 : (Try.prog.underlying 131).isSome = true := by kernel_rfl
theorem one131 : oneT Try.prog 131 = true := by kernel_rfl
theorem size131 : (Try.prog.info? 131).map (·.size) = some 1 := by kernel_rfl
theorem zero131 : zeroT Try.prog 131 = some (Value.map none) := by kernel_rfl
theorem us132 : (Try.prog.underlying 132).isSome = true := by kernel_rfl
theorem one132 : oneT Try.prog 132 = true := by kernel_rfl
theorem slt132 : SlT Try.prog 132 137 (Value.agg #[(Value.slice none 0 0), (Value.slice none 0 0), (Value.pointer none)]) 3 56 := ⟨Try.underlying132, by kernel_rfl, rfl, by decide⟩
theorem size132 : (Try.prog.info? 132).map (·.size) = some 1 := by kernel_rfl
theorem zero132 : zeroT Try.prog 132 = some (Value.slice none 0 0) := by kernel_rfl
theorem us133 : (Try.prog.underlying 133).isSome = true := by kernel_rfl
theorem agg133 : aggT Try.prog 133 = some 2 := by kernel_rfl
theorem fld133_0 : fieldT Try.prog 133 0 = some 0 := by kernel_rfl
theorem fld133_1 : fieldT Try.prog 133 1 = some 1 := by kernel_rfl
theorem size133 : (Try.prog.info? 133).map (·.size) = some 2 := by kernel_rfl
theorem zero133 : zeroT Try.prog 133 = some (Value.agg #[(Value.slice none 0 0), (Value.map none)]) := by kernel_rfl
theorem us134 : (Try.prog.underlying 134).isSome = true := by kernel_rfl
theorem agg134 : aggT Try.prog 134 = some 2 := by kernel_rfl
theorem fld134_0 : fieldT Try.prog 134 0 = some 0 := by kernel_rfl
theorem fld134_1 : fieldT Try.prog 134 1 = some 1 := by kernel_rfl
theorem size134 : (Try.prog.info? 134).map (·.size) = some 2 := by kernel_rfl
theorem zero134 : zeroT Try.prog 134 = some (Value.agg #[(Value.slice none 0 0), (Value.map none)]) := by kernel_rfl
theorem us135 : (Try.prog.underlying 135).isSome = true := by kernel_rfl
theorem one135 : oneT Try.prog 135 = true := by kernel_rfl
theorem size135 : (Try.prog.info? 135).map (·.size) = some 1 := by kernel_rfl
theorem us136 : (Try.prog.underlying 136).isSome = true := by kernel_rfl
theorem agg136 : aggT Try.prog 136 = some 3 := by kernel_rfl
theorem fld136_0 : fieldT Try.prog 136 0 = some 0 := by kernel_rfl
theorem fld136_1 : fieldT Try.prog 136 1 = some 1 := by kernel_rfl
theorem fld136_2 : fieldT Try.prog 136 2 = some 2 := by kernel_rfl
theorem size136 : (Try.prog.info? 136).map (·.size) = some 3 := by kernel_rfl
theorem zero136 : zeroT Try.prog 136 = some (Value.agg #[(Value.slice none 0 0), (Value.slice none 0 0), (Value.pointer none)]) := by kernel_rfl
theorem us137 : (Try.prog.underlying 137).isSome = true := by kernel_rfl
theorem agg137 : aggT Try.prog 137 = some 3 := by kernel_rfl
theorem fld137_0 : fieldT Try.prog 137 0 = some 0 := by kernel_rfl
theorem fld137_1 : fieldT Try.prog 137 1 = some 1 := by kernel_rfl
theorem fld137_2 : fieldT Try.prog 137 2 = some 2 := by kernel_rfl
theorem size137 : (Try.prog.info? 137).map (·.size) = some 3 := by kernel_rfl
theorem zero137 : zeroT Try.prog 137 = some (Value.agg #[(Value.slice none 0 0), (Value.slice none 0 0), (Value.pointer none)]) := by kernel_rfl
theorem us138 : (Try.prog.underlying 138).isSome = true := by kernel_rfl
theorem one138 : oneT Try.prog 138 = true := by kernel_rfl
theorem size138 : (Try.prog.info? 138).map (·.size) = some 1 := by kernel_rfl
theorem us139 : (Try.prog.underlying 139).isSome = true := by kernel_rfl
theorem one139 : oneT Try.prog 139 = true := by kernel_rfl
theorem size139 : (Try.prog.info? 139).map (·.size) = some 1 := by kernel_rfl
theorem us140 : (Try.prog.underlying 140).isSome = true := by kernel_rfl
theorem one140 : oneT Try.prog 140 = true := by kernel_rfl
theorem size140 : (Try.prog.info? 140).map (·.size) = some 1 := by kernel_rfl
theorem us141 : (Try.prog.underlying 141).isSome = true := by kernel_rfl
theorem one141 : oneT Try.prog 141 = true := by kernel_rfl
theorem size141 : (Try.prog.info? 141).map (·.size) = some 1 := by kernel_rfl
theorem us142 : (Try.prog.underlying 142).isSome = true := by kernel_rfl
theorem one142 : oneT Try.prog 142 = true := by kernel_rfl
theorem ptrt142 : Try.prog.underlying 142 = some (.pointer (Try.prog.pointee 142)) := by kernel_rfl
theorem size142 : (Try.prog.info? 142).map (·.size) = some 1 := by kernel_rfl
theorem zero142 : zeroT Try.prog 142 = some (Value.pointer none) := by kernel_rfl
theorem us143 : (Try.prog.underlying 143).isSome = true := by kernel_rfl
theorem one143 : oneT Try.prog 143 = true := by kernel_rfl
theorem size143 : (Try.prog.info? 143).map (·.size) = some 1 := by kernel_rfl
theorem us144 : (Try.prog.underlying 144).isSome = true := by kernel_rfl
theorem one144 : oneT Try.prog 144 = true := by kernel_rfl
theorem size144 : (Try.prog.info? 144).map (·.size) = some 1 := by kernel_rfl
theorem us145 : (Try.prog.underlying 145).isSome = true := by kernel_rfl
theorem one145 : oneT Try.prog 145 = true := by kernel_rfl
theorem size145 : (Try.prog.info? 145).map (·.size) = some 1 := by kernel_rfl
theorem us146 : (Try.prog.underlying 146).isSome = true := by kernel_rfl
theorem one146 : oneT Try.prog 146 = true := by kernel_rfl
theorem size146 : (Try.prog.info? 146).map (·.size) = some 1 := by kernel_rfl
theorem us147 : (Try.prog.underlying 147).isSome = true := by kernel_rfl
theorem one147 : oneT Try.prog 147 = true := by kernel_rfl
theorem size147 : (Try.prog.info? 147).map (·.size) = some 1 := by kernel_rfl
theorem us148 : (Try.prog.underlying 148).isSome = true := by kernel_rfl
theorem one148 : oneT Try.prog 148 = true := by kernel_rfl
theorem size148 : (Try.prog.info? 148).map (·.size) = some 1 := by kernel_rfl
theorem us149 : (Try.prog.underlying 149).isSome = true := by kernel_rfl
theorem one149 : oneT Try.prog 149 = true := by kernel_rfl
theorem size149 : (Try.prog.info? 149).map (·.size) = some 1 := by kernel_rfl
theorem us150 : (Try.prog.underlying 150).isSome = true := by kernel_rfl
theorem one150 : oneT Try.prog 150 = true := by kernel_rfl
theorem size150 : (Try.prog.info? 150).map (·.size) = some 1 := by kernel_rfl
theorem us151 : (Try.prog.underlying 151).isSome = true := by kernel_rfl
theorem agg151 : aggT Try.prog 151 = some 2 := by kernel_rfl
theorem fld151_0 : fieldT Try.prog 151 0 = some 0 := by kernel_rfl
theorem fld151_1 : fieldT Try.prog 151 1 = some 1 := by kernel_rfl
theorem size151 : (Try.prog.info? 151).map (·.size) = some 2 := by kernel_rfl
theorem zero151 : zeroT Try.prog 151 = some (Value.agg #[(Value.slice none 0 0), (Value.int .u64 0)]) := by kernel_rfl
theorem us152 : (Try.prog.underlying 152).isSome = true := by kernel_rfl
theorem agg152 : aggT Try.prog 152 = some 2 := by kernel_rfl
theorem fld152_0 : fieldT Try.prog 152 0 = some 0 := by kernel_rfl
theorem fld152_1 : fieldT Try.prog 152 1 = some 1 := by kernel_rfl
theorem size152 : (Try.prog.info? 152).map (·.size) = some 2 := by kernel_rfl
theorem zero152 : zeroT Try.prog 152 = some (Value.agg #[(Value.slice none 0 0), (Value.int .u64 0)]) := by kernel_rfl
theorem us153 : (Try.prog.underlying 153).isSome = true := by kernel_rfl
theorem one153 : oneT Try.prog 153 = true := by kernel_rfl
theorem size153 : (Try.prog.info? 153).map (·.size) = some 1 := by kernel_rfl
theorem us154 : (Try.prog.underlying 154).isSome = true := by kernel_rfl
theorem one154 : oneT Try.prog 154 = true := by kernel_rfl
theorem size154 : (Try.prog.info? 154).map (·.size) = some 1 := by kernel_rfl
theorem us155 : (Try.prog.underlying 155).isSome = true := by kernel_rfl
theorem one155 : oneT Try.prog 155 = true := by kernel_rfl
theorem ptrt155 : Try.prog.underlying 155 = some (.pointer (Try.prog.pointee 155)) := by kernel_rfl
theorem size155 : (Try.prog.info? 155).map (·.size) = some 1 := by kernel_rfl
theorem zero155 : zeroT Try.prog 155 = some (Value.pointer none) := by kernel_rfl
theorem us157 : (Try.prog.underlying 157).isSome = true := by kernel_rfl
theorem one157 : oneT Try.prog 157 = true := by kernel_rfl
theorem size157 : (Try.prog.info? 157).map (·.size) = some 1 := by kernel_rfl
theorem us158 : (Try.prog.underlying 158).isSome = true := by kernel_rfl
theorem one158 : oneT Try.prog 158 = true := by kernel_rfl
theorem slt158 : SlT Try.prog 158 169 (Value.agg #[(Value.string (bs [])), (Value.slice none 0 0)]) 2 40 := ⟨Try.underlying158, by kernel_rfl, rfl, by decide⟩
theorem size158 : (Try.prog.info? 158).map (·.size) = some 1 := by kernel_rfl
theorem zero158 : zeroT Try.prog 158 = some (Value.slice none 0 0) := by kernel_rfl
theorem us159 : (Try.prog.underlying 159).isSome = true := by kernel_rfl
theorem agg159 : aggT Try.prog 159 = some 1 := by kernel_rfl
theorem fld159_0 : fieldT Try.prog 159 0 = some 0 := by kernel_rfl
theorem size159 : (Try.prog.info? 159).map (·.size) = some 1 := by kernel_rfl
theorem zero159 : zeroT Try.prog 159 = some (Value.agg #[(Value.slice none 0 0)]) := by kernel_rfl
theorem us160 : (Try.prog.underlying 160).isSome = true := by kernel_rfl
theorem agg160 : aggT Try.prog 160 = some 1 := by kernel_rfl
theorem fld160_0 : fieldT Try.prog 160 0 = some 0 := by kernel_rfl
theorem size160 : (Try.prog.info? 160).map (·.size) = some 1 := by kernel_rfl
theorem zero160 : zeroT Try.prog 160 = some (Value.agg #[(Value.slice none 0 0)]) := by kernel_rfl
theorem us161 : (Try.prog.underlying 161).isSome = true := by kernel_rfl
theorem agg161 : aggT Try.prog 161 = some 1 := by kernel_rfl
theorem fld161_0 : fieldT Try.prog 161 0 = some 0 := by kernel_rfl
theorem size161 : (Try.prog.info? 161).map (·.size) = some 1 := by kernel_rfl
theorem zero161 : zeroT Try.prog 161 = some (Value.agg #[(Value.slice none 0 0)]) := by kernel_rfl
theorem us162 : (Try.prog.underlying 162).isSome = true := by kernel_rfl
theorem agg162 : aggT Try.prog 162 = some 1 := by kernel_rfl
theorem fld162_0 : fieldT Try.prog 162 0 = some 0 := by kernel_rfl
theorem size162 : (Try.prog.info? 162).map (·.size) = some 1 := by kernel_rfl
theorem zero162 : zeroT Try.prog 162 = some (Value.agg #[(Value.slice none 0 0)]) := by kernel_rfl
theorem us163 : (Try.prog.underlying 163).isSome = true := by kernel_rfl
theorem agg163 : aggT Try.prog 163 = some 5 := by kernel_rfl
theorem fld163_0 : fieldT Try.prog 163 0 = some 0 := by kernel_rfl
theorem fld163_1 : fieldT Try.prog 163 1 = some 1 := by kernel_rfl
theorem fld163_2 : fieldT Try.prog 163 2 = some 2 := by kernel_rfl
theorem fld163_3 : fieldT Try.prog 163 3 = some 3 := by kernel_rfl
theorem fld163_4 : fieldT Try.prog 163 4 = some 4 := by kernel_rfl
theorem size163 : (Try.prog.info? 163).map (·.size) = some 5 := by kernel_rfl
theorem zero163 : zeroT Try.prog 163 = some (Value.agg #[(Value.slice none 0 0), (Value.int .u64 0), (Value.slice none 0 0), (Value.slice none 0 0), (Value.bool false)]) := by kernel_rfl
theorem us164 : (Try.prog.underlying 164).isSome = true := by kernel_rfl
theorem agg164 : aggT Try.prog 164 = some 5 := by kernel_rfl
theorem fld164_0 : fieldT Try.prog 164 0 = some 0 := by kernel_rfl
theorem fld164_1 : fieldT Try.prog 164 1 = some 1 := by kernel_rfl
theorem fld164_2 : fieldT Try.prog 164 2 = some 2 := by kernel_rfl
theorem fld164_3 : fieldT Try.prog 164 3 = some 3 := by kernel_rfl
theorem fld164_4 : fieldT Try.prog 164 4 = some 4 := by kernel_rfl
theorem size164 : (Try.prog.info? 164).map (·.size) = some 5 := by kernel_rfl
theorem zero164 : zeroT Try.prog 164 = some (Value.agg #[(Value.slice none 0 0), (Value.int .u64 0), (Value.slice none 0 0), (Value.slice none 0 0), (Value.bool false)]) := by kernel_rfl
theorem us165 : (Try.prog.underlying 165).isSome = true := by kernel_rfl
theorem one165 : oneT Try.prog 165 = true := by kernel_rfl
theorem size165 : (Try.prog.info? 165).map (·.size) = some 1 := by kernel_rfl
theorem us166 : (Try.prog.underlying 166).isSome = true := by kernel_rfl
theorem one166 : oneT Try.prog 166 = true := by kernel_rfl
theorem size166 : (Try.prog.info? 166).map (·.size) = some 1 := by kernel_rfl
theorem us167 : (Try.prog.underlying 167).isSome = true := by kernel_rfl
theorem one167 : oneT Try.prog 167 = true := by kernel_rfl
theorem size167 : (Try.prog.info? 167).map (·.size) = some 1 := by kernel_rfl
theorem us168 : (Try.prog.underlying 168).isSome = true := by kernel_rfl
theorem agg168 : aggT Try.prog 168 = some 2 := by kernel_rfl
theorem fld168_0 : fieldT Try.prog 168 0 = some 0 := by kernel_rfl
theorem fld168_1 : fieldT Try.prog 168 1 = some 1 := by kernel_rfl
theorem size168 : (Try.prog.info? 168).map (·.size) = some 2 := by kernel_rfl
theorem zero168 : zeroT Try.prog 168 = some (Value.agg #[(Value.string (bs [])), (Value.slice none 0 0)]) := by kernel_rfl
theorem us169 : (Try.prog.underlying 169).isSome = true := by kernel_rfl
theorem agg169 : aggT Try.prog 169 = some 2 := by kernel_rfl
theorem fld169_0 : fieldT Try.prog 169 0 = some 0 := by kernel_rfl
theorem fld169_1 : fieldT Try.prog 169 1 = some 1 := by kernel_rfl
theorem size169 : (Try.prog.info? 169).map (·.size) = some 2 := by kernel_rfl
theorem zero169 : zeroT Try.prog 169 = some (Value.agg #[(Value.string (bs [])), (Value.slice none 0 0)]) := by kernel_rfl
theorem us170 : (Try.prog.underlying 170).isSome = true := by kernel_rfl
theorem one170 : oneT Try.prog 170 = true := by kernel_rfl
theorem size170 : (Try.prog.info? 170).map (·.size) = some 1 := by kernel_rfl
theorem us171 : (Try.prog.underlying 171).isSome = true := by kernel_rfl
theorem one171 : oneT Try.prog 171 = true := by kernel_rfl
theorem size171 : (Try.prog.info? 171).map (·.size) = some 1 := by kernel_rfl
theorem us172 : (Try.prog.underlying 172).isSome = true := by kernel_rfl
theorem one172 : oneT Try.prog 172 = true := by kernel_rfl
theorem size172 : (Try.prog.info? 172).map (·.size) = some 1 := by kernel_rfl
theorem us173 : (Try.prog.underlying 173).isSome = true := by kernel_rfl
theorem one173 : oneT Try.prog 173 = true := by kernel_rfl
theorem size173 : (Try.prog.info? 173).map (·.size) = some 1 := by kernel_rfl
theorem us174 : (Try.prog.underlying 174).isSome = true := by kernel_rfl
theorem one174 : oneT Try.prog 174 = true := by kernel_rfl
theorem size174 : (Try.prog.info? 174).map (·.size) = some 1 := by kernel_rfl
theorem us175 : (Try.prog.underlying 175).isSome = true := by kernel_rfl
theorem one175 : oneT Try.prog 175 = true := by kernel_rfl
theorem slt175 : SlT Try.prog 175 181 (Value.agg #[(Value.string (bs [])), (Value.slice none 0 0)]) 2 40 := ⟨Try.underlying175, by kernel_rfl, rfl, by decide⟩
theorem size175 : (Try.prog.info? 175).map (·.size) = some 1 := by kernel_rfl
theorem zero175 : zeroT Try.prog 175 = some (Value.slice none 0 0) := by kernel_rfl
theorem us176 : (Try.prog.underlying 176).isSome = true := by kernel_rfl
theorem agg176 : aggT Try.prog 176 = some 6 := by kernel_rfl
theorem fld176_0 : fieldT Try.prog 176 0 = some 0 := by kernel_rfl
theorem fld176_1 : fieldT Try.prog 176 1 = some 1 := by kernel_rfl
theorem fld176_2 : fieldT Try.prog 176 2 = some 2 := by kernel_rfl
theorem fld176_3 : fieldT Try.prog 176 3 = some 3 := by kernel_rfl
theorem fld176_4 : fieldT Try.prog 176 4 = some 4 := by kernel_rfl
theorem fld176_5 : fieldT Try.prog 176 5 = some 5 := by kernel_rfl
theorem size176 : (Try.prog.info? 176).map (·.size) = some 6 := by kernel_rfl
theorem zero176 : zeroT Try.prog 176 = some (Value.agg #[(Value.int .i64 0), (Value.slice none 0 0), (Value.int .u64 0), (Value.slice none 0 0), (Value.slice none 0 0), (Value.bool false)]) := by kernel_rfl
theorem us177 : (Try.prog.underlying 177).isSome = true := by kernel_rfl
theorem agg177 : aggT Try.prog 177 = some 6 := by kernel_rfl
theorem fld177_0 : fieldT Try.prog 177 0 = some 0 := by kernel_rfl
theorem fld177_1 : fieldT Try.prog 177 1 = some 1 := by kernel_rfl
theorem fld177_2 : fieldT Try.prog 177 2 = some 2 := by kernel_rfl
theorem fld177_3 : fieldT Try.prog 177 3 = some 3 := by kernel_rfl
theorem fld177_4 : fieldT Try.prog 177 4 = some 4 := by kernel_rfl
theorem fld177_5 : fieldT Try.prog 177 5 = some 5 := by kernel_rfl
theorem size177 : (Try.prog.info? 177).map (·.size) = some 6 := by kernel_rfl
theorem zero177 : zeroT Try.prog 177 = some (Value.agg #[(Value.int .i64 0), (Value.slice none 0 0), (Value.int .u64 0), (Value.slice none 0 0), (Value.slice none 0 0), (Value.bool false)]) := by kernel_rfl
theorem us178 : (Try.prog.underlying 178).isSome = true := by kernel_rfl
theorem one178 : oneT Try.prog 178 = true := by kernel_rfl
theorem size178 : (Try.prog.info? 178).map (·.size) = some 1 := by kernel_rfl
theorem us179 : (Try.prog.underlying 179).isSome = true := by kernel_rfl
theorem one179 : oneT Try.prog 179 = true := by kernel_rfl
theorem size179 : (Try.prog.info? 179).map (·.size) = some 1 := by kernel_rfl
theorem us180 : (Try.prog.underlying 180).isSome = true := by kernel_rfl
theorem agg180 : aggT Try.prog 180 = some 2 := by kernel_rfl
theorem fld180_0 : fieldT Try.prog 180 0 = some 0 := by kernel_rfl
theorem fld180_1 : fieldT Try.prog 180 1 = some 1 := by kernel_rfl
theorem size180 : (Try.prog.info? 180).map (·.size) = some 2 := by kernel_rfl
theorem zero180 : zeroT Try.prog 180 = some (Value.agg #[(Value.string (bs [])), (Value.slice none 0 0)]) := by kernel_rfl
theorem us181 : (Try.prog.underlying 181).isSome = true := by kernel_rfl
theorem agg181 : aggT Try.prog 181 = some 2 := by kernel_rfl
theorem fld181_0 : fieldT Try.prog 181 0 = some 0 := by kernel_rfl
theorem fld181_1 : fieldT Try.prog 181 1 = some 1 := by kernel_rfl
theorem size181 : (Try.prog.info? 181).map (·.size) = some 2 := by kernel_rfl
theorem zero181 : zeroT Try.prog 181 = some (Value.agg #[(Value.string (bs [])), (Value.slice none 0 0)]) := by kernel_rfl
theorem us182 : (Try.prog.underlying 182).isSome = true := by kernel_rfl
theorem one182 : oneT Try.prog 182 = true := by kernel_rfl
theorem size182 : (Try.prog.info? 182).map (·.size) = some 1 := by kernel_rfl
theorem us183 : (Try.prog.underlying 183).isSome = true := by kernel_rfl
theorem one183 : oneT Try.prog 183 = true := by kernel_rfl
theorem size183 : (Try.prog.info? 183).map (·.size) = some 1 := by kernel_rfl
theorem us184 : (Try.prog.underlying 184).isSome = true := by kernel_rfl
theorem one184 : oneT Try.prog 184 = true := by kernel_rfl
theorem size184 : (Try.prog.info? 184).map (·.size) = some 1 := by kernel_rfl
theorem zero184 : zeroT Try.prog 184 = some (Value.int .u64 0) := by kernel_rfl
theorem us185 : (Try.prog.underlying 185).isSome = true := by kernel_rfl
theorem one185 : oneT Try.prog 185 = true := by kernel_rfl
theorem ptrt185 : Try.prog.underlying 185 = some (.pointer (Try.prog.pointee 185)) := by kernel_rfl
theorem size185 : (Try.prog.info? 185).map (·.size) = some 1 := by kernel_rfl
theorem zero185 : zeroT Try.prog 185 = some (Value.pointer none) := by kernel_rfl
theorem us186 : (Try.prog.underlying 186).isSome = true := by kernel_rfl
theorem one186 : oneT Try.prog 186 = true := by kernel_rfl
theorem slt186 : SlT Try.prog 186 274 (Value.agg #[(Value.string (bs [])), (Value.slice none 0 0), (Value.int .u64 0), (Value.slice none 0 0)]) 4 72 := ⟨Try.underlying186, by kernel_rfl, rfl, by decide⟩
theorem size186 : (Try.prog.info? 186).map (·.size) = some 1 := by kernel_rfl
theorem zero186 : zeroT Try.prog 186 = some (Value.slice none 0 0) := by kernel_rfl
theorem us187 : (Try.prog.underlying 187).isSome = true := by kernel_rfl
theorem agg187 : aggT Try.prog 187 = some 2 := by kernel_rfl
theorem fld187_0 : fieldT Try.prog 187 0 = some 0 := by kernel_rfl
theorem fld187_1 : fieldT Try.prog 187 1 = some 1 := by kernel_rfl
theorem size187 : (Try.prog.info? 187).map (·.size) = some 2 := by kernel_rfl
theorem zero187 : zeroT Try.prog 187 = some (Value.agg #[(Value.int .i64 0), (Value.slice none 0 0)]) := by kernel_rfl
theorem us188 : (Try.prog.underlying 188).isSome = true := by kernel_rfl
theorem agg188 : aggT Try.prog 188 = some 2 := by kernel_rfl
theorem fld188_0 : fieldT Try.prog 188 0 = some 0 := by kernel_rfl
theorem fld188_1 : fieldT Try.prog 188 1 = some 1 := by kernel_rfl
theorem size188 : (Try.prog.info? 188).map (·.size) = some 2 := by kernel_rfl
theorem zero188 : zeroT Try.prog 188 = some (Value.agg #[(Value.int .i64 0), (Value.slice none 0 0)]) := by kernel_rfl
theorem us189 : (Try.prog.underlying 189).isSome = true := by kernel_rfl
theorem one189 : oneT Try.prog 189 = true := by kernel_rfl
theorem slt189 : SlT Try.prog 189 186 (Value.slice none 0 0) 1 24 := ⟨Try.underlying189, by kernel_rfl, rfl, by decide⟩
theorem size189 : (Try.prog.info? 189).map (·.size) = some 1 := by kernel_rfl
theorem zero189 : zeroT Try.prog 189 = some (Value.slice none 0 0) := by kernel_rfl
theorem us190 : (Try.prog.underlying 190).isSome = true := by kernel_rfl
theorem one190 : oneT Try.prog 190 = true := by kernel_rfl
theorem slt190 : SlT Try.prog 190 277 (Value.agg #[(Value.string (bs [])), (Value.slice none 0 0), (Value.slice none 0 0)]) 3 64 := ⟨Try.underlying190, by kernel_rfl, rfl, by decide⟩
theorem size190 : (Try.prog.info? 190).map (·.size) = some 1 := by kernel_rfl
theorem zero190 : zeroT Try.prog 190 = some (Value.slice none 0 0) := by kernel_rfl
theorem us191 : (Try.prog.underlying 191).isSome = true := by kernel_rfl
theorem one191 : oneT Try.prog 191 = true := by kernel_rfl
theorem slt191 : SlT Try.prog 191 284 (Value.agg #[(Value.string (bs [])), (Value.slice none 0 0), (Value.int .i64 0), (Value.string (bs [])), (Value.string (bs [])), (Value.slice none 0 0), (Value.slice none 0 0), (Value.slice none 0 0), (Value.slice none 0 0), (Value.string (bs [])), (Value.slice none 0 0), (Value.slice none 0 0), (Value.slice none 0 0), (Value.bool false), (Value.slice none 0 0)]) 15 296 := ⟨Try.underlying191, by kernel_rfl, rfl, by decide⟩
theorem size191 : (Try.prog.info? 191).map (·.size) = some 1 := by kernel_rfl
theorem zero191 : zeroT Try.prog 191 = some (Value.slice none 0 0) := by kernel_rfl
theorem us192 : (Try.prog.underlying 192).isSome = true := by kernel_rfl
theorem agg192 : aggT Try.prog 192 = some 2 := by kernel_rfl
theorem fld192_0 : fieldT Try.prog 192 0 = some 0 := by kernel_rfl
theorem fld192_1 : fieldT Try.prog 192 1 = some 1 := by kernel_rfl
theorem size192 : (Try.prog.info? 192).map (·.size) = some 2 := by kernel_rfl
theorem zero192 : zeroT Try.prog 192 = some (Value.agg #[(Value.slice none 0 0), (Value.slice none 0 0)]) := by kernel_rfl
theorem us193 : (Try.prog.underlying 193).isSome = true := by kernel_rfl
theorem agg193 : aggT Try.prog 193 = some 2 := by kernel_rfl
theorem fld193_0 : fieldT Try.prog 193 0 = some 0 := by kernel_rfl
theorem fld193_1 : fieldT Try.prog 193 1 = some 1 := by kernel_rfl
theorem size193 : (Try.prog.info? 193).map (·.size) = some 2 := by kernel_rfl
theorem zero193 : zeroT Try.prog 193 = some (Value.agg #[(Value.slice none 0 0), (Value.slice none 0 0)]) := by kernel_rfl
theorem us194 : (Try.prog.underlying 194).isSome = true := by kernel_rfl
theorem one194 : oneT Try.prog 194 = true := by kernel_rfl
theorem slt194 : SlT Try.prog 194 289 (Value.agg #[(Value.string (bs [])), (Value.slice none 0 0), (Value.int .u64 0), (Value.slice none 0 0), (Value.bool false)]) 5 80 := ⟨Try.underlying194, by kernel_rfl, rfl, by decide⟩
theorem size194 : (Try.prog.info? 194).map (·.size) = some 1 := by kernel_rfl
theorem zero194 : zeroT Try.prog 194 = some (Value.slice none 0 0) := by kernel_rfl
theorem us195 : (Try.prog.underlying 195).isSome = true := by kernel_rfl
theorem agg195 : aggT Try.prog 195 = some 6 := by kernel_rfl
theorem fld195_0 : fieldT Try.prog 195 0 = some 0 := by kernel_rfl
theorem fld195_1 : fieldT Try.prog 195 1 = some 2 := by kernel_rfl
theorem fld195_2 : fieldT Try.prog 195 2 = some 3 := by kernel_rfl
theorem fld195_3 : fieldT Try.prog 195 3 = some 4 := by kernel_rfl
theorem fld195_4 : fieldT Try.prog 195 4 = some 5 := by kernel_rfl
theorem size195 : (Try.prog.info? 195).map (·.size) = some 6 := by kernel_rfl
theorem zero195 : zeroT Try.prog 195 = some (Value.agg #[(Value.slice none 0 0), (Value.slice none 0 0), (Value.pointer none), (Value.pointer none), (Value.slice none 0 0), (Value.slice none 0 0)]) := by kernel_rfl
theorem us196 : (Try.prog.underlying 196).isSome = true := by kernel_rfl
theorem agg196 : aggT Try.prog 196 = some 6 := by kernel_rfl
theorem fld196_0 : fieldT Try.prog 196 0 = some 0 := by kernel_rfl
theorem fld196_1 : fieldT Try.prog 196 1 = some 2 := by kernel_rfl
theorem fld196_2 : fieldT Try.prog 196 2 = some 3 := by kernel_rfl
theorem fld196_3 : fieldT Try.prog 196 3 = some 4 := by kernel_rfl
theorem fld196_4 : fieldT Try.prog 196 4 = some 5 := by kernel_rfl
theorem size196 : (Try.prog.info? 196).map (·.size) = some 6 := by kernel_rfl
theorem zero196 : zeroT Try.prog 196 = some (Value.agg #[(Value.slice none 0 0), (Value.slice none 0 0), (Value.pointer none), (Value.pointer none), (Value.slice none 0 0), (Value.slice none 0 0)]) := by kernel_rfl
theorem us197 : (Try.prog.underlying 197).isSome = true := by kernel_rfl
theorem one197 : oneT Try.prog 197 = true := by kernel_rfl
theorem size197 : (Try.prog.info? 197).map (·.size) = some 1 := by kernel_rfl
theorem us198 : (Try.prog.underlying 198).isSome = true := by kernel_rfl
theorem one198 : oneT Try.prog 198 = true := by kernel_rfl
theorem size198 : (Try.prog.info? 198).map (·.size) = some 1 := by kernel_rfl
theorem us199 : (Try.prog.underlying 199).isSome = true := by kernel_rfl
theorem one199 : oneT Try.prog 199 = true := by kernel_rfl
theorem size199 : (Try.prog.info? 199).map (·.size) = some 1 := by kernel_rfl
theorem us201 : (Try.prog.underlying 201).isSome = true := by kernel_rfl
theorem one201 : oneT Try.prog 201 = true := by kernel_rfl
theorem size201 : (Try.prog.info? 201).map (·.size) = some 1 := by kernel_rfl
theorem us202 : (Try.prog.underlying 202).isSome = true := by kernel_rfl
theorem one202 : oneT Try.prog 202 = true := by kernel_rfl
theorem size202 : (Try.prog.info? 202).map (·.size) = some 1 := by kernel_rfl
theorem us203 : (Try.prog.underlying 203).isSome = true := by kernel_rfl
theorem one203 : oneT Try.prog 203 = true := by kernel_rfl
theorem size203 : (Try.prog.info? 203).map (·.size) = some 1 := by kernel_rfl
theorem us204 : (Try.prog.underlying 204).isSome = true := by kernel_rfl
theorem one204 : oneT Try.prog 204 = true := by kernel_rfl
theorem size204 : (Try.prog.info? 204).map (·.size) = some 1 := by kernel_rfl
theorem us205 : (Try.prog.underlying 205).isSome = true := by kernel_rfl
theorem one205 : oneT Try.prog 205 = true := by kernel_rfl
theorem size205 : (Try.prog.info? 205).map (·.size) = some 1 := by kernel_rfl
theorem us206 : (Try.prog.underlying 206).isSome = true := by kernel_rfl
theorem one206 : oneT Try.prog 206 = true := by kernel_rfl
theorem size206 : (Try.prog.info? 206).map (·.size) = some 1 := by kernel_rfl
theorem us207 : (Try.prog.underlying 207).isSome = true := by kernel_rfl
theorem one207 : oneT Try.prog 207 = true := by kernel_rfl
theorem size207 : (Try.prog.info? 207).map (·.size) = some 1 := by kernel_rfl
theorem us208 : (Try.prog.underlying 208).isSome = true := by kernel_rfl
theorem one208 : oneT Try.prog 208 = true := by kernel_rfl
theorem ptrt208 : Try.prog.underlying 208 = some (.pointer (Try.prog.pointee 208)) := by kernel_rfl
theorem size208 : (Try.prog.info? 208).map (·.size) = some 1 := by kernel_rfl
theorem zero208 : zeroT Try.prog 208 = some (Value.pointer none) := by kernel_rfl
theorem us209 : (Try.prog.underlying 209).isSome = true := by kernel_rfl
theorem one209 : oneT Try.prog 209 = true := by kernel_rfl
theorem size209 : (Try.prog.info? 209).map (·.size) = some 1 := by kernel_rfl
theorem us210 : (Try.prog.underlying 210).isSome = true := by kernel_rfl
theorem one210 : oneT Try.prog 210 = true := by kernel_rfl
theorem size210 : (Try.prog.info? 210).map (·.size) = some 1 := by kernel_rfl
theorem us211 : (Try.prog.underlying 211).isSome = true := by kernel_rfl
theorem one211 : oneT Try.prog 211 = true := by kernel_rfl
theorem ptrt211 : Try.prog.underlying 211 = some (.pointer (Try.prog.pointee 211)) := by kernel_rfl
theorem size211 : (Try.prog.info? 211).map (·.size) = some 1 := by kernel_rfl
theorem zero211 : zeroT Try.prog 211 = some (Value.pointer none) := by kernel_rfl
theorem us212 : (Try.prog.underlying 212).isSome = true := by kernel_rfl
theorem one212 : oneT Try.prog 212 = true := by kernel_rfl
theorem size212 : (Try.prog.info? 212).map (·.size) = some 1 := by kernel_rfl
theorem us213 : (Try.prog.underlying 213).isSome = true := by kernel_rfl
theorem one213 : oneT Try.prog 213 = true := by kernel_rfl
theorem size213 : (Try.prog.info? 213).map (·.size) = some 1 := by kernel_rfl
theorem us214 : (Try.prog.underlying 214).isSome = true := by kernel_rfl
theorem one214 : oneT Try.prog 214 = true := by kernel_rfl
theorem size214 : (Try.prog.info? 214).map (·.size) = some 1 := by kernel_rfl
theorem us215 : (Try.prog.underlying 215).isSome = true := by kernel_rfl
theorem one215 : oneT Try.prog 215 = true := by kernel_rfl
theorem size215 : (Try.prog.info? 215).map (·.size) = some 1 := by kernel_rfl
theorem us216 : (Try.prog.underlying 216).isSome = true := by kernel_rfl
theorem one216 : oneT Try.prog 216 = true := by kernel_rfl
theorem size216 : (Try.prog.info? 216).map (·.size) = some 1 := by kernel_rfl
theorem us217 : (Try.prog.underlying 217).isSome = true := by kernel_rfl
theorem one217 : oneT Try.prog 217 = true := by kernel_rfl
theorem size217 : (Try.prog.info? 217).map (·.size) = some 1 := by kernel_rfl
theorem us218 : (Try.prog.underlying 218).isSome = true := by kernel_rfl
theorem one218 : oneT Try.prog 218 = true := by kernel_rfl
theorem size218 : (Try.prog.info? 218).map (·.size) = some 1 := by kernel_rfl
theorem us219 : (Try.prog.underlying 219).isSome = true := by kernel_rfl
theorem one219 : oneT Try.prog 219 = true := by kernel_rfl
theorem size219 : (Try.prog.info? 219).map (·.size) = some 1 := by kernel_rfl
theorem us220 : (Try.prog.underlying 220).isSome = true := by kernel_rfl
theorem one220 : oneT Try.prog 220 = true := by kernel_rfl
theorem size220 : (Try.prog.info? 220).map (·.size) = some 1 := by kernel_rfl
theorem us221 : (Try.prog.underlying 221).isSome = true := by kernel_rfl
theorem one221 : oneT Try.prog 221 = true := by kernel_rfl
theorem size221 : (Try.prog.info? 221).map (·.size) = some 1 := by kernel_rfl
theorem us222 : (Try.prog.underlying 222).isSome = true := by kernel_rfl
theorem one222 : oneT Try.prog 222 = true := by kernel_rfl
theorem size222 : (Try.prog.info? 222).map (·.size) = some 1 := by kernel_rfl
theorem us223 : (Try.prog.underlying 223).isSome = true := by kernel_rfl
theorem one223 : oneT Try.prog 223 = true := by kernel_rfl
theorem size223 : (Try.prog.info? 223).map (·.size) = some 1 := by kernel_rfl
theorem us224 : (Try.prog.underlying 224).isSome = true := by kernel_rfl
theorem one224 : oneT Try.prog 224 = true := by kernel_rfl
theorem size224 : (Try.prog.info? 224).map (·.size) = some 1 := by kernel_rfl
theorem us225 : (Try.prog.underlying 225).isSome = true := by kernel_rfl
theorem one225 : oneT Try.prog 225 = true := by kernel_rfl
theorem size225 : (Try.prog.info? 225).map (·.size) = some 1 := by kernel_rfl
theorem us226 : (Try.prog.underlying 226).isSome = true := by kernel_rfl
theorem one226 : oneT Try.prog 226 = true := by kernel_rfl
theorem size226 : (Try.prog.info? 226).map (·.size) = some 1 := by kernel_rfl
theorem us227 : (Try.prog.underlying 227).isSome = true := by kernel_rfl
theorem one227 : oneT Try.prog 227 = true := by kernel_rfl
theorem size227 : (Try.prog.info? 227).map (·.size) = some 1 := by kernel_rfl
theorem us228 : (Try.prog.underlying 228).isSome = true := by kernel_rfl
theorem one228 : oneT Try.prog 228 = true := by kernel_rfl
theorem size228 : (Try.prog.info? 228).map (·.size) = some 1 := by kernel_rfl
theorem zero228 : zeroT Try.prog 228 = some (Value.int .i64 0) := by kernel_rfl
theorem us230 : (Try.prog.underlying 230).isSome = true := by kernel_rfl
theorem one230 : oneT Try.prog 230 = true := by kernel_rfl
theorem size230 : (Try.prog.info? 230).map (·.size) = some 1 := by kernel_rfl
theorem us231 : (Try.prog.underlying 231).isSome = true := by kernel_rfl
theorem one231 : oneT Try.prog 231 = true := by kernel_rfl
theorem size231 : (Try.prog.info? 231).map (·.size) = some 1 := by kernel_rfl
theorem us232 : (Try.prog.underlying 232).isSome = true := by kernel_rfl
theorem one232 : oneT Try.prog 232 = true := by kernel_rfl
theorem size232 : (Try.prog.info? 232).map (·.size) = some 1 := by kernel_rfl
theorem us233 : (Try.prog.underlying 233).isSome = true := by kernel_rfl
theorem one233 : oneT Try.prog 233 = true := by kernel_rfl
theorem size233 : (Try.prog.info? 233).map (·.size) = some 1 := by kernel_rfl
theorem us234 : (Try.prog.underlying 234).isSome = true := by kernel_rfl
theorem one234 : oneT Try.prog 234 = true := by kernel_rfl
theorem size234 : (Try.prog.info? 234).map (·.size) = some 1 := by kernel_rfl
theorem us235 : (Try.prog.underlying 235).isSome = true := by kernel_rfl
theorem one235 : oneT Try.prog 235 = true := by kernel_rfl
theorem size235 : (Try.prog.info? 235).map (·.size) = some 1 := by kernel_rfl
theorem us236 : (Try.prog.underlying 236).isSome = true := by kernel_rfl
theorem one236 : oneT Try.prog 236 = true := by kernel_rfl
theorem size236 : (Try.prog.info? 236).map (·.size) = some 1 := by kernel_rfl
theorem zero236 : zeroT Try.prog 236 = some (Value.int .u32 0) := by kernel_rfl
theorem us237 : (Try.prog.underlying 237).isSome = true := by kernel_rfl
theorem one237 : oneT Try.prog 237 = true := by kernel_rfl
theorem size237 : (Try.prog.info? 237).map (·.size) = some 1 := by kernel_rfl
theorem us238 : (Try.prog.underlying 238).isSome = true := by kernel_rfl
theorem one238 : oneT Try.prog 238 = true := by kernel_rfl
theorem size238 : (Try.prog.info? 238).map (·.size) = some 1 := by kernel_rfl
theorem us239 : (Try.prog.underlying 239).isSome = true := by kernel_rfl
theorem one239 : oneT Try.prog 239 = true := by kernel_rfl
theorem size239 : (Try.prog.info? 239).map (·.size) = some 1 := by kernel_rfl
theorem us240 : (Try.prog.underlying 240).isSome = true := by kernel_rfl
theorem one240 : oneT Try.prog 240 = true := by kernel_rfl
theorem size240 : (Try.prog.info? 240).map (·.size) = some 1 := by kernel_rfl
theorem us241 : (Try.prog.underlying 241).isSome = true := by kernel_rfl
theorem one241 : oneT Try.prog 241 = true := by kernel_rfl
theorem size241 : (Try.prog.info? 241).map (·.size) = some 1 := by kernel_rfl
theorem us242 : (Try.prog.underlying 242).isSome = true := by kernel_rfl
theorem one242 : oneT Try.prog 242 = true := by kernel_rfl
theorem size242 : (Try.prog.info? 242).map (·.size) = some 1 := by kernel_rfl
theorem us243 : (Try.prog.underlying 243).isSome = true := by kernel_rfl
theorem one243 : oneT Try.prog 243 = true := by kernel_rfl
theorem size243 : (Try.prog.info? 243).map (·.size) = some 1 := by kernel_rfl
theorem us244 : (Try.prog.underlying 244).isSome = true := by kernel_rfl
theorem one244 : oneT Try.prog 244 = true := by kernel_rfl
theorem size244 : (Try.prog.info? 244).map (·.size) = some 1 := by kernel_rfl
theorem zero244 : zeroT Try.prog 244 = some (Value.int .u64 0) := by kernel_rfl
theorem us245 : (Try.prog.underlying 245).isSome = true := by kernel_rfl
theorem one245 : oneT Try.prog 245 = true := by kernel_rfl
theorem size245 : (Try.prog.info? 245).map (·.size) = some 1 := by kernel_rfl
theorem us246 : (Try.prog.underlying 246).isSome = true := by kernel_rfl
theorem one246 : oneT Try.prog 246 = true := by kernel_rfl
theorem size246 : (Try.prog.info? 246).map (·.size) = some 1 := by kernel_rfl
theorem us247 : (Try.prog.underlying 247).isSome = true := by kernel_rfl
theorem one247 : oneT Try.prog 247 = true := by kernel_rfl
theorem size247 : (Try.prog.info? 247).map (·.size) = some 1 := by kernel_rfl
theorem us248 : (Try.prog.underlying 248).isSome = true := by kernel_rfl
theorem one248 : oneT Try.prog 248 = true := by kernel_rfl
theorem ptrt248 : Try.prog.underlying 248 = some (.pointer (Try.prog.pointee 248)) := by kernel_rfl
theorem size248 : (Try.prog.info? 248).map (·.size) = some 1 := by kernel_rfl
theorem zero248 : zeroT Try.prog 248 = some (Value.pointer none) := by kernel_rfl
theorem us249 : (Try.prog.underlying 249).isSome = true := by kernel_rfl
theorem one249 : oneT Try.prog 249 = true := by kernel_rfl
theorem size249 : (Try.prog.info? 249).map (·.size) = some 1 := by kernel_rfl
theorem us250 : (Try.prog.underlying 250).isSome = true := by kernel_rfl
theorem one250 : oneT Try.prog 250 = true := by kernel_rfl
theorem size250 : (Try.prog.info? 250).map (·.size) = some 1 := by kernel_rfl
theorem us251 : (Try.prog.underlying 251).isSome = true := by kernel_rfl
theorem one251 : oneT Try.prog 251 = true := by kernel_rfl
theorem size251 : (Try.prog.info? 251).map (·.size) = some 1 := by kernel_rfl
theorem us252 : (Try.prog.underlying 252).isSome = true := by kernel_rfl
theorem one252 : oneT Try.prog 252 = true := by kernel_rfl
theorem ptrt252 : Try.prog.underlying 252 = some (.pointer (Try.prog.pointee 252)) := by kernel_rfl
theorem size252 : (Try.prog.info? 252).map (·.size) = some 1 := by kernel_rfl
theorem zero252 : zeroT Try.prog 252 = some (Value.pointer none) := by kernel_rfl
theorem us254 : (Try.prog.underlying 254).isSome = true := by kernel_rfl
theorem one254 : oneT Try.prog 254 = true := by kernel_rfl
theorem size254 : (Try.prog.info? 254).map (·.size) = some 1 := by kernel_rfl
theorem us255 : (Try.prog.underlying 255).isSome = true := by kernel_rfl
theorem one255 : oneT Try.prog 255 = true := by kernel_rfl
theorem size255 : (Try.prog.info? 255).map (·.size) = some 1 := by kernel_rfl
theorem us256 : (Try.prog.underlying 256).isSome = true := by kernel_rfl
theorem one256 : oneT Try.prog 256 = true := by kernel_rfl
theorem size256 : (Try.prog.info? 256).map (·.size) = some 1 := by kernel_rfl
theorem us257 : (Try.prog.underlying 257).isSome = true := by kernel_rfl
theorem agg257 : aggT Try.prog 257 = some 4 := by kernel_rfl
theorem fld257_0 : fieldT Try.prog 257 0 = some 0 := by kernel_rfl
theorem fld257_1 : fieldT Try.prog 257 1 = some 1 := by kernel_rfl
theorem fld257_2 : fieldT Try.prog 257 2 = some 2 := by kernel_rfl
theorem fld257_3 : fieldT Try.prog 257 3 = some 3 := by kernel_rfl
theorem size257 : (Try.prog.info? 257).map (·.size) = some 4 := by kernel_rfl
theorem zero257 : zeroT Try.prog 257 = some (Value.agg #[(Value.pointer none), (Value.pointer none), (Value.pointer none), (Value.string (bs []))]) := by kernel_rfl
theorem us258 : (Try.prog.underlying 258).isSome = true := by kernel_rfl
theorem agg258 : aggT Try.prog 258 = some 4 := by kernel_rfl
theorem fld258_0 : fieldT Try.prog 258 0 = some 0 := by kernel_rfl
theorem fld258_1 : fieldT Try.prog 258 1 = some 1 := by kernel_rfl
theorem fld258_2 : fieldT Try.prog 258 2 = some 2 := by kernel_rfl
theorem fld258_3 : fieldT Try.prog 258 3 = some 3 := by kernel_rfl
theorem size258 : (Try.prog.info? 258).map (·.size) = some 4 := by kernel_rfl
theorem zero258 : zeroT Try.prog 258 = some (Value.agg #[(Value.pointer none), (Value.pointer none), (Value.pointer none), (Value.string (bs []))]) := by kernel_rfl
theorem us259 : (Try.prog.underlying 259).isSome = true := by kernel_rfl
theorem agg259 : aggT Try.prog 259 = some 0 := by kernel_rfl
theorem arr259 : arrT Try.prog 259 = some (0, 1) := by kernel_rfl
theorem size259 : (Try.prog.info? 259).map (·.size) = some 0 := by kernel_rfl
theorem zero259 : zeroT Try.prog 259 = some (Value.agg #[]) := by kernel_rfl
theorem us260 : (Try.prog.underlying 260).isSome = true := by kernel_rfl
theorem agg260 : aggT Try.prog 260 = some 0 := by kernel_rfl
theorem size260 : (Try.prog.info? 260).map (·.size) = some 0 := by kernel_rfl
theorem zero260 : zeroT Try.prog 260 = some (Value.agg #[]) := by kernel_rfl
theorem us261 : (Try.prog.underlying 261).isSome = true := by kernel_rfl
theorem agg261 : aggT Try.prog 261 = some 0 := by kernel_rfl
theorem size261 : (Try.prog.info? 261).map (·.size) = some 0 := by kernel_rfl
theorem zero261 : zeroT Try.prog 261 = some (Value.agg #[]) := by kernel_rfl
theorem us262 : (Try.prog.underlying 262).isSome = true := by kernel_rfl
theorem one262 : oneT Try.prog 262 = true := by kernel_rfl
theorem size262 : (Try.prog.info? 262).map (·.size) = some 1 := by kernel_rfl
theorem zero262 : zeroT Try.prog 262 = some (Value.int .u8 0) := by kernel_rfl
theorem us263 : (Try.prog.underlying 263).isSome = true := by kernel_rfl
theorem one263 : oneT Try.prog 263 = true := by kernel_rfl
theorem size263 : (Try.prog.info? 263).map (·.size) = some 1 := by kernel_rfl
theorem zero263 : zeroT Try.prog 263 = some (Value.int .u8 0) := by kernel_rfl
theorem us264 : (Try.prog.underlying 264).isSome = true := by kernel_rfl
theorem one264 : oneT Try.prog 264 = true := by kernel_rfl
theorem size264 : (Try.prog.info? 264).map (·.size) = some 1 := by kernel_rfl
theorem us265 : (Try.prog.underlying 265).isSome = true := by kernel_rfl
theorem one265 : oneT Try.prog 265 = true := by kernel_rfl
theorem ptrt265 : Try.prog.underlying 265 = some (.pointer (Try.prog.pointee 265)) := by kernel_rfl
theorem size265 : (Try.prog.info? 265).map (·.size) = some 1 := by kernel_rfl
theorem zero265 : zeroT Try.prog 265 = some (Value.pointer none) := by kernel_rfl
theorem us266 : (Try.prog.underlying 266).isSome = true := by kernel_rfl
theorem one266 : oneT Try.prog 266 = true := by kernel_rfl
theorem size266 : (Try.prog.info? 266).map (·.size) = some 1 := by kernel_rfl
theorem zero266 : zeroT Try.prog 266 = some (Value.int .i32 0) := by kernel_rfl
theorem us267 : (Try.prog.underlying 267).isSome = true := by kernel_rfl
theorem one267 : oneT Try.prog 267 = true := by kernel_rfl
theorem size267 : (Try.prog.info? 267).map (·.size) = some 1 := by kernel_rfl
theorem zero267 : zeroT Try.prog 267 = some (Value.int .i32 0) := by kernel_rfl
theorem us268 : (Try.prog.underlying 268).isSome = true := by kernel_rfl
theorem agg268 : aggT Try.prog 268 = some 11 := by kernel_rfl
theorem fld268_0 : fieldT Try.prog 268 0 = some 0 := by kernel_rfl
theorem fld268_1 : fieldT Try.prog 268 1 = some 1 := by kernel_rfl
theorem fld268_2 : fieldT Try.prog 268 2 = some 2 := by kernel_rfl
theorem fld268_3 : fieldT Try.prog 268 3 = some 3 := by kernel_rfl
theorem fld268_4 : fieldT Try.prog 268 4 = some 4 := by kernel_rfl
theorem fld268_5 : fieldT Try.prog 268 5 = some 5 := by kernel_rfl
theorem fld268_6 : fieldT Try.prog 268 6 = some 6 := by kernel_rfl
theorem fld268_7 : fieldT Try.prog 268 7 = some 7 := by kernel_rfl
theorem fld268_8 : fieldT Try.prog 268 8 = some 8 := by kernel_rfl
theorem fld268_9 : fieldT Try.prog 268 9 = some 9 := by kernel_rfl
theorem fld268_10 : fieldT Try.prog 268 10 = some 10 := by kernel_rfl
theorem size268 : (Try.prog.info? 268).map (·.size) = some 11 := by kernel_rfl
theorem zero268 : zeroT Try.prog 268 = some (Value.agg #[(Value.int .u64 0), (Value.int .u64 0), (Value.int .u32 0), (Value.int .u8 0), (Value.int .u8 0), (Value.int .u8 0), (Value.int .u8 0), Value.nilFunc, (Value.pointer none), (Value.int .i32 0), (Value.int .i32 0)]) := by kernel_rfl
theorem us269 : (Try.prog.underlying 269).isSome = true := by kernel_rfl
theorem agg269 : aggT Try.prog 269 = some 11 := by kernel_rfl
theorem fld269_0 : fieldT Try.prog 269 0 = some 0 := by kernel_rfl
theorem fld269_1 : fieldT Try.prog 269 1 = some 1 := by kernel_rfl
theorem fld269_2 : fieldT Try.prog 269 2 = some 2 := by kernel_rfl
theorem fld269_3 : fieldT Try.prog 269 3 = some 3 := by kernel_rfl
theorem fld269_4 : fieldT Try.prog 269 4 = some 4 := by kernel_rfl
theorem fld269_5 : fieldT Try.prog 269 5 = some 5 := by kernel_rfl
theorem fld269_6 : fieldT Try.prog 269 6 = some 6 := by kernel_rfl
theorem fld269_7 : fieldT Try.prog 269 7 = some 7 := by kernel_rfl
theorem fld269_8 : fieldT Try.prog 269 8 = some 8 := by kernel_rfl
theorem fld269_9 : fieldT Try.prog 269 9 = some 9 := by kernel_rfl
theorem fld269_10 : fieldT Try.prog 269 10 = some 10 := by kernel_rfl
theorem size269 : (Try.prog.info? 269).map (·.size) = some 11 := by kernel_rfl
theorem zero269 : zeroT Try.prog 269 = some (Value.agg #[(Value.int .u64 0), (Value.int .u64 0), (Value.int .u32 0), (Value.int .u8 0), (Value.int .u8 0), (Value.int .u8 0), (Value.int .u8 0), Value.nilFunc, (Value.pointer none), (Value.int .i32 0), (Value.int .i32 0)]) := by kernel_rfl
theorem us270 : (Try.prog.underlying 270).isSome = true := by kernel_rfl
theorem one270 : oneT Try.prog 270 = true := by kernel_rfl
theorem size270 : (Try.prog.info? 270).map (·.size) = some 1 := by kernel_rfl
theorem us271 : (Try.prog.underlying 271).isSome = true := by kernel_rfl
theorem one271 : oneT Try.prog 271 = true := by kernel_rfl
theorem size271 : (Try.prog.info? 271).map (·.size) = some 1 := by kernel_rfl
theorem us272 : (Try.prog.underlying 272).isSome = true := by kernel_rfl
theorem one272 : oneT Try.prog 272 = true := by kernel_rfl
theorem slt272 : SlT Try.prog 272 287 (Value.agg #[(Value.int .u64 0), (Value.slice none 0 0)]) 2 32 := ⟨Try.underlying272, by kernel_rfl, rfl, by decide⟩
theorem size272 : (Try.prog.info? 272).map (·.size) = some 1 := by kernel_rfl
theorem zero272 : zeroT Try.prog 272 = some (Value.slice none 0 0) := by kernel_rfl
theorem us273 : (Try.prog.underlying 273).isSome = true := by kernel_rfl
theorem agg273 : aggT Try.prog 273 = some 4 := by kernel_rfl
theorem fld273_0 : fieldT Try.prog 273 0 = some 0 := by kernel_rfl
theorem fld273_1 : fieldT Try.prog 273 1 = some 1 := by kernel_rfl
theorem fld273_2 : fieldT Try.prog 273 2 = some 2 := by kernel_rfl
theorem fld273_3 : fieldT Try.prog 273 3 = some 3 := by kernel_rfl
theorem size273 : (Try.prog.info? 273).map (·.size) = some 4 := by kernel_rfl
theorem zero273 : zeroT Try.prog 273 = some (Value.agg #[(Value.string (bs [])), (Value.slice none 0 0), (Value.int .u64 0), (Value.slice none 0 0)]) := by kernel_rfl
theorem us274 : (Try.prog.underlying 274).isSome = true := by kernel_rfl
theorem agg274 : aggT Try.prog 274 = some 4 := by kernel_rfl
theorem fld274_0 : fieldT Try.prog 274 0 = some 0 := by kernel_rfl
theorem fld274_1 : fieldT Try.prog 274 1 = some 1 := by kernel_rfl
theorem fld274_2 : fieldT Try.prog 274 2 = some 2 := by kernel_rfl
theorem fld274_3 : fieldT Try.prog 274 3 = some 3 := by kernel_rfl
theorem size274 : (Try.prog.info? 274).map (·.size) = some 4 := by kernel_rfl
theorem zero274 : zeroT Try.prog 274 = some (Value.agg #[(Value.string (bs [])), (Value.slice none 0 0), (Value.int .u64 0), (Value.slice none 0 0)]) := by kernel_rfl
theorem us275 : (Try.prog.underlying 275).isSome = true := by kernel_rfl
theorem one275 : oneT Try.prog 275 = true := by kernel_rfl
theorem slt275 : SlT Try.prog 275 292 (Value.agg #[(Value.string (bs [])), (Value.int .i64 0), (Value.string (bs []))]) 3 40 := ⟨Try.underlying275, by kernel_rfl, rfl, by decide⟩
theorem size275 : (Try.prog.info? 275).map (·.size) = some 1 := by kernel_rfl
theorem zero275 : zeroT Try.prog 275 = some (Value.slice none 0 0) := by kernel_rfl
theorem us276 : (Try.prog.underlying 276).isSome = true := by kernel_rfl
theorem agg276 : aggT Try.prog 276 = some 3 := by kernel_rfl
theorem fld276_0 : fieldT Try.prog 276 0 = some 0 := by kernel_rfl
theorem fld276_1 : fieldT Try.prog 276 1 = some 1 := by kernel_rfl
theorem fld276_2 : fieldT Try.prog 276 2 = some 2 := by kernel_rfl
theorem size276 : (Try.prog.info? 276).map (·.size) = some 3 := by kernel_rfl
theorem zero276 : zeroT Try.prog 276 = some (Value.agg #[(Value.string (bs [])), (Value.slice none 0 0), (Value.slice none 0 0)]) := by kernel_rfl
theorem us277 : (Try.prog.underlying 277).isSome = true := by kernel_rfl
theorem agg277 : aggT Try.prog 277 = some 3 := by kernel_rfl
theorem fld277_0 : fieldT Try.prog 277 0 = some 0 := by kernel_rfl
theorem fld277_1 : fieldT Try.prog 277 1 = some 1 := by kernel_rfl
theorem fld277_2 : fieldT Try.prog 277 2 = some 2 := by kernel_rfl
theorem size277 : (Try.prog.info? 277).map (·.size) = some 3 := by kernel_rfl
theorem zero277 : zeroT Try.prog 277 = some (Value.agg #[(Value.string (bs [])), (Value.slice none 0 0), (Value.slice none 0 0)]) := by kernel_rfl
theorem us278 : (Try.prog.underlying 278).isSome = true := by kernel_rfl
theorem one278 : oneT Try.prog 278 = true := by kernel_rfl
theorem slt278 : SlT Try.prog 278 296 (Value.agg #[(Value.int .i64 0), (Value.int .i64 0), (Value.int .i64 0), (Value.string (bs [])), (Value.string (bs [])), (Value.string (bs [])), (Value.slice none 0 0)]) 7 96 := ⟨Try.underlying278, by kernel_rfl, rfl, by decide⟩
theorem size278 : (Try.prog.info? 278).map (·.size) = some 1 := by kernel_rfl
theorem zero278 : zeroT Try.prog 278 = some (Value.slice none 0 0) := by kernel_rfl
theorem us279 : (Try.prog.underlying 279).isSome = true := by kernel_rfl
theorem one279 : oneT Try.prog 279 = true := by kernel_rfl
theorem slt279 : SlT Try.prog 279 298 (Value.agg #[(Value.int .i64 0), (Value.string (bs [])), (Value.string (bs []))]) 3 40 := ⟨Try.underlying279, by kernel_rfl, rfl, by decide⟩
theorem size279 : (Try.prog.info? 279).map (·.size) = some 1 := by kernel_rfl
theorem zero279 : zeroT Try.prog 279 = some (Value.slice none 0 0) := by kernel_rfl
theorem us280 : (Try.prog.underlying 280).isSome = true := by kernel_rfl
theorem one280 : oneT Try.prog 280 = true := by kernel_rfl
theorem slt280 : SlT Try.prog 280 282 (Value.agg #[(Value.int .i64 0), (Value.string (bs [])), (Value.string (bs [])), (Value.slice none 0 0), (Value.slice none 0 0), (Value.slice none 0 0), (Value.slice none 0 0), (Value.string (bs [])), (Value.slice none 0 0), (Value.slice none 0 0), (Value.slice none 0 0), (Value.bool false), (Value.slice none 0 0)]) 13 256 := ⟨Try.underlying280, by kernel_rfl, rfl, by decide⟩
theorem size280 : (Try.prog.info? 280).map (·.size) = some 1 := by kernel_rfl
theorem zero280 : zeroT Try.prog 280 = some (Value.slice none 0 0) := by kernel_rfl
theorem us281 : (Try.prog.underlying 281).isSome = true := by kernel_rfl
theorem agg281 : aggT Try.prog 281 = some 13 := by kernel_rfl
theorem fld281_0 : fieldT Try.prog 281 0 = some 0 := by kernel_rfl
theorem fld281_1 : fieldT Try.prog 281 1 = some 1 := by kernel_rfl
theorem fld281_2 : fieldT Try.prog 281 2 = some 2 := by kernel_rfl
theorem fld281_3 : fieldT Try.prog 281 3 = some 3 := by kernel_rfl
theorem fld281_4 : fieldT Try.prog 281 4 = some 4 := by kernel_rfl
theorem fld281_5 : fieldT Try.prog 281 5 = some 5 := by kernel_rfl
theorem fld281_6 : fieldT Try.prog 281 6 = some 6 := by kernel_rfl
theorem fld281_7 : fieldT Try.prog 281 7 = some 7 := by kernel_rfl
theorem fld281_8 : fieldT Try.prog 281 8 = some 8 := by kernel_rfl
theorem fld281_9 : fieldT Try.prog 281 9 = some 9 := by kernel_rfl
theorem fld281_10 : fieldT Try.prog 281 10 = some 10 := by kernel_rfl
theorem fld281_11 : fieldT Try.prog 281 11 = some 11 := by kernel_rfl
theorem fld281_12 : fieldT Try.prog 281 12 = some 12 := by kernel_rfl
theorem size281 : (Try.prog.info? 281).map (·.size) = some 13 := by kernel_rfl
theorem zero281 : zeroT Try.prog 281 = some (Value.agg #[(Value.int .i64 0), (Value.string (bs [])), (Value.string (bs [])), (Value.slice none 0 0), (Value.slice none 0 0), (Value.slice none 0 0), (Value.slice none 0 0), (Value.string (bs [])), (Value.slice none 0 0), (Value.slice none 0 0), (Value.slice none 0 0), (Value.bool false), (Value.slice none 0 0)]) := by kernel_rfl
theorem us282 : (Try.prog.underlying 282).isSome = true := by kernel_rfl
theorem agg282 : aggT Try.prog 282 = some 13 := by kernel_rfl
theorem fld282_0 : fieldT Try.prog 282 0 = some 0 := by kernel_rfl
theorem fld282_1 : fieldT Try.prog 282 1 = some 1 := by kernel_rfl
theorem fld282_2 : fieldT Try.prog 282 2 = some 2 := by kernel_rfl
theorem fld282_3 : fieldT Try.prog 282 3 = some 3 := by kernel_rfl
theorem fld282_4 : fieldT Try.prog 282 4 = some 4 := by kernel_rfl
theorem fld282_5 : fieldT Try.prog 282 5 = some 5 := by kernel_rfl
theorem fld282_6 : fieldT Try.prog 282 6 = some 6 := by kernel_rfl
theorem fld282_7 : fieldT Try.prog 282 7 = some 7 := by kernel_rfl
theorem fld282_8 : fieldT Try.prog 282 8 = some 8 := by kernel_rfl
theorem fld282_9 : fieldT Try.prog 282 9 = some 9 := by kernel_rfl
theorem fld282_10 : fieldT Try.prog 282 10 = some 10 := by kernel_rfl
theorem fld282_11 : fieldT Try.prog 282 11 = some 11 := by kernel_rfl
theorem fld282_12 : fieldT Try.prog 282 12 = some 12 := by kernel_rfl
theorem size282 : (Try.prog.info? 282).map (·.size) = some 13 := by kernel_rfl
theorem zero282 : zeroT Try.prog 282 = some (Value.agg #[(Value.int .i64 0), (Value.string (bs [])), (Value.string (bs [])), (Value.slice none 0 0), (Value.slice none 0 0), (Value.slice none 0 0), (Value.slice none 0 0), (Value.string (bs [])), (Value.slice none 0 0), (Value.slice none 0 0), (Value.slice none 0 0), (Value.bool false), (Value.slice none 0 0)]) := by kernel_rfl
theorem us283 : (Try.prog.underlying 283).isSome = true := by kernel_rfl
theorem agg283 : aggT Try.prog 283 = some 15 := by kernel_rfl
theorem fld283_0 : fieldT Try.prog 283 0 = some 0 := by kernel_rfl
theorem fld283_1 : fieldT Try.prog 283 1 = some 1 := by kernel_rfl
theorem fld283_2 : fieldT Try.prog 283 2 = some 2 := by kernel_rfl
theorem size283 : (Try.prog.info? 283).map (·.size) = some 15 := by kernel_rfl
theorem zero283 : zeroT Try.prog 283 = some (Value.agg #[(Value.string (bs [])), (Value.slice none 0 0), (Value.int .i64 0), (Value.string (bs [])), (Value.string (bs [])), (Value.slice none 0 0), (Value.slice none 0 0), (Value.slice none 0 0), (Value.slice none 0 0), (Value.string (bs [])), (Value.slice none 0 0), (Value.slice none 0 0), (Value.slice none 0 0), (Value.bool false), (Value.slice none 0 0)]) := by kernel_rfl
theorem us284 : (Try.prog.underlying 284).isSome = true := by kernel_rfl
theorem agg284 : aggT Try.prog 284 = some 15 := by kernel_rfl
theorem fld284_0 : fieldT Try.prog 284 0 = some 0 := by kernel_rfl
theorem fld284_1 : fieldT Try.prog 284 1 = some 1 := by kernel_rfl
theorem fld284_2 : fieldT Try.prog 284 2 = some 2 := by kernel_rfl
theorem size284 : (Try.prog.info? 284).map (·.size) = some 15 := by kernel_rfl
theorem zero284 : zeroT Try.prog 284 = some (Value.agg #[(Value.string (bs [])), (Value.slice none 0 0), (Value.int .i64 0), (Value.string (bs [])), (Value.string (bs [])), (Value.slice none 0 0), (Value.slice none 0 0), (Value.slice none 0 0), (Value.slice none 0 0), (Value.string (bs [])), (Value.slice none 0 0), (Value.slice none 0 0), (Value.slice none 0 0), (Value.bool false), (Value.slice none 0 0)]) := by kernel_rfl
theorem us285 : (Try.prog.underlying 285).isSome = true := by kernel_rfl
theorem one285 : oneT Try.prog 285 = true := by kernel_rfl
theorem slt285 : SlT Try.prog 285 294 (Value.agg #[(Value.int .i64 0), (Value.int .i64 0), (Value.string (bs []))]) 3 32 := ⟨Try.underlying285, by kernel_rfl, rfl, by decide⟩
theorem size285 : (Try.prog.info? 285).map (·.size) = some 1 := by kernel_rfl
theorem zero285 : zeroT Try.prog 285 = some (Value.slice none 0 0) := by kernel_rfl
theorem us286 : (Try.prog.underlying 286).isSome = true := by kernel_rfl
theorem agg286 : aggT Try.prog 286 = some 2 := by kernel_rfl
theorem fld286_0 : fieldT Try.prog 286 0 = some 0 := by kernel_rfl
theorem fld286_1 : fieldT Try.prog 286 1 = some 1 := by kernel_rfl
theorem size286 : (Try.prog.info? 286).map (·.size) = some 2 := by kernel_rfl
theorem zero286 : zeroT Try.prog 286 = some (Value.agg #[(Value.int .u64 0), (Value.slice none 0 0)]) := by kernel_rfl
theorem us287 : (Try.prog.underlying 287).isSome = true := by kernel_rfl
theorem agg287 : aggT Try.prog 287 = some 2 := by kernel_rfl
theorem fld287_0 : fieldT Try.prog 287 0 = some 0 := by kernel_rfl
theorem fld287_1 : fieldT Try.prog 287 1 = some 1 := by kernel_rfl
theorem size287 : (Try.prog.info? 287).map (·.size) = some 2 := by kernel_rfl
theorem zero287 : zeroT Try.prog 287 = some (Value.agg #[(Value.int .u64 0), (Value.slice none 0 0)]) := by kernel_rfl
theorem us288 : (Try.prog.underlying 288).isSome = true := by kernel_rfl
theorem agg288 : aggT Try.prog 288 = some 5 := by kernel_rfl
theorem fld288_0 : fieldT Try.prog 288 0 = some 0 := by kernel_rfl
theorem fld288_1 : fieldT Try.prog 288 1 = some 1 := by kernel_rfl
theorem fld288_2 : fieldT Try.prog 288 2 = some 2 := by kernel_rfl
theorem fld288_3 : fieldT Try.prog 288 3 = some 4 := by kernel_rfl
theorem size288 : (Try.prog.info? 288).map (·.size) = some 5 := by kernel_rfl
theorem zero288 : zeroT Try.prog 288 = some (Value.agg #[(Value.string (bs [])), (Value.slice none 0 0), (Value.int .u64 0), (Value.slice none 0 0), (Value.bool false)]) := by kernel_rfl
theorem us289 : (Try.prog.underlying 289).isSome = true := by kernel_rfl
theorem agg289 : aggT Try.prog 289 = some 5 := by kernel_rfl
theorem fld289_0 : fieldT Try.prog 289 0 = some 0 := by kernel_rfl
theorem fld289_1 : fieldT Try.prog 289 1 = some 1 := by kernel_rfl
theorem fld289_2 : fieldT Try.prog 289 2 = some 2 := by kernel_rfl
theorem fld289_3 : fieldT Try.prog 289 3 = some 4 := by kernel_rfl
theorem size289 : (Try.prog.info? 289).map (·.size) = some 5 := by kernel_rfl
theorem zero289 : zeroT Try.prog 289 = some (Value.agg #[(Value.string (bs [])), (Value.slice none 0 0), (Value.int .u64 0), (Value.slice none 0 0), (Value.bool false)]) := by kernel_rfl
theorem us290 : (Try.prog.underlying 290).isSome = true := by kernel_rfl
theorem one290 : oneT Try.prog 290 = true := by kernel_rfl
theorem size290 : (Try.prog.info? 290).map (·.size) = some 1 := by kernel_rfl
theorem zero290 : zeroT Try.prog 290 = some (Value.pointer none) := by kernel_rfl
theorem us291 : (Try.prog.underlying 291).isSome = true := by kernel_rfl
theorem agg291 : aggT Try.prog 291 = some 3 := by kernel_rfl
theorem fld291_0 : fieldT Try.prog 291 0 = some 0 := by kernel_rfl
theorem fld291_1 : fieldT Try.prog 291 1 = some 1 := by kernel_rfl
theorem fld291_2 : fieldT Try.prog 291 2 = some 2 := by kernel_rfl
theorem size291 : (Try.prog.info? 291).map (·.size) = some 3 := by kernel_rfl
theorem zero291 : zeroT Try.prog 291 = some (Value.agg #[(Value.string (bs [])), (Value.int .i64 0), (Value.string (bs []))]) := by kernel_rfl
theorem us292 : (Try.prog.underlying 292).isSome = true := by kernel_rfl
theorem agg292 : aggT Try.prog 292 = some 3 := by kernel_rfl
theorem fld292_0 : fieldT Try.prog 292 0 = some 0 := by kernel_rfl
theorem fld292_1 : fieldT Try.prog 292 1 = some 1 := by kernel_rfl
theorem fld292_2 : fieldT Try.prog 292 2 = some 2 := by kernel_rfl
theorem size292 : (Try.prog.info? 292).map (·.size) = some 3 := by kernel_rfl
theorem zero292 : zeroT Try.prog 292 = some (Value.agg #[(Value.string (bs [])), (Value.int .i64 0), (Value.string (bs []))]) := by kernel_rfl
theorem us293 : (Try.prog.underlying 293).isSome = true := by kernel_rfl
theorem agg293 : aggT Try.prog 293 = some 3 := by kernel_rfl
theorem fld293_0 : fieldT Try.prog 293 0 = some 0 := by kernel_rfl
theorem fld293_1 : fieldT Try.prog 293 1 = some 1 := by kernel_rfl
theorem fld293_2 : fieldT Try.prog 293 2 = some 2 := by kernel_rfl
theorem size293 : (Try.prog.info? 293).map (·.size) = some 3 := by kernel_rfl
theorem zero293 : zeroT Try.prog 293 = some (Value.agg #[(Value.int .i64 0), (Value.int .i64 0), (Value.string (bs []))]) := by kernel_rfl
theorem us294 : (Try.prog.underlying 294).isSome = true := by kernel_rfl
theorem agg294 : aggT Try.prog 294 = some 3 := by kernel_rfl
theorem fld294_0 : fieldT Try.prog 294 0 = some 0 := by kernel_rfl
theorem fld294_1 : fieldT Try.prog 294 1 = some 1 := by kernel_rfl
theorem fld294_2 : fieldT Try.prog 294 2 = some 2 := by kernel_rfl
theorem size294 : (Try.prog.info? 294).map (·.size) = some 3 := by kernel_rfl
theorem zero294 : zeroT Try.prog 294 = some (Value.agg #[(Value.int .i64 0), (Value.int .i64 0), (Value.string (bs []))]) := by kernel_rfl
theorem us295 : (Try.prog.underlying 295).isSome = true := by kernel_rfl
theorem agg295 : aggT Try.prog 295 = some 7 := by kernel_rfl
theorem fld295_0 : fieldT Try.prog 295 0 = some 0 := by kernel_rfl
theorem fld295_1 : fieldT Try.prog 295 1 = some 1 := by kernel_rfl
theorem fld295_2 : fieldT Try.prog 295 2 = some 4 := by kernel_rfl
theorem fld295_3 : fieldT Try.prog 295 3 = some 5 := by kernel_rfl
theorem fld295_4 : fieldT Try.prog 295 4 = some 6 := by kernel_rfl
theorem size295 : (Try.prog.info? 295).map (·.size) = some 7 := by kernel_rfl
theorem zero295 : zeroT Try.prog 295 = some (Value.agg #[(Value.int .i64 0), (Value.int .i64 0), (Value.int .i64 0), (Value.string (bs [])), (Value.string (bs [])), (Value.string (bs [])), (Value.slice none 0 0)]) := by kernel_rfl
theorem us296 : (Try.prog.underlying 296).isSome = true := by kernel_rfl
theorem agg296 : aggT Try.prog 296 = some 7 := by kernel_rfl
theorem fld296_0 : fieldT Try.prog 296 0 = some 0 := by kernel_rfl
theorem fld296_1 : fieldT Try.prog 296 1 = some 1 := by kernel_rfl
theorem fld296_2 : fieldT Try.prog 296 2 = some 4 := by kernel_rfl
theorem fld296_3 : fieldT Try.prog 296 3 = some 5 := by kernel_rfl
theorem fld296_4 : fieldT Try.prog 296 4 = some 6 := by kernel_rfl
theorem size296 : (Try.prog.info? 296).map (·.size) = some 7 := by kernel_rfl
theorem zero296 : zeroT Try.prog 296 = some (Value.agg #[(Value.int .i64 0), (Value.int .i64 0), (Value.int .i64 0), (Value.string (bs [])), (Value.string (bs [])), (Value.string (bs [])), (Value.slice none 0 0)]) := by kernel_rfl
theorem us297 : (Try.prog.underlying 297).isSome = true := by kernel_rfl
theorem agg297 : aggT Try.prog 297 = some 3 := by kernel_rfl
theorem fld297_0 : fieldT Try.prog 297 0 = some 0 := by kernel_rfl
theorem fld297_1 : fieldT Try.prog 297 1 = some 1 := by kernel_rfl
theorem fld297_2 : fieldT Try.prog 297 2 = some 2 := by kernel_rfl
theorem size297 : (Try.prog.info? 297).map (·.size) = some 3 := by kernel_rfl
theorem zero297 : zeroT Try.prog 297 = some (Value.agg #[(Value.int .i64 0), (Value.string (bs [])), (Value.string (bs []))]) := by kernel_rfl
theorem us298 : (Try.prog.underlying 298).isSome = true := by kernel_rfl
theorem agg298 : aggT Try.prog 298 = some 3 := by kernel_rfl
theorem fld298_0 : fieldT Try.prog 298 0 = some 0 := by kernel_rfl
theorem fld298_1 : fieldT Try.prog 298 1 = some 1 := by kernel_rfl
theorem fld298_2 : fieldT Try.prog 298 2 = some 2 := by kernel_rfl
theorem size298 : (Try.prog.info? 298).map (·.size) = some 3 := by kernel_rfl
theorem zero298 : zeroT Try.prog 298 = some (Value.agg #[(Value.int .i64 0), (Value.string (bs [])), (Value.string (bs []))]) := by kernel_rfl
theorem ok3 : callOk Try.prog 3 = true := by kernel_rfl
theorem ok4 : callOk Try.prog 4 = true := by kernel_rfl
theorem ok5 : callOk Try.prog 5 = true := by kernel_rfl
theorem ok6 : callOk Try.prog 6 = true := by kernel_rfl
theorem ok7 : callOk Try.prog 7 = true := by kernel_rfl
theorem ok8 : callOk Try.prog 8 = true := by kernel_rfl
theorem ok9 : callOk Try.prog 9 = true := by kernel_rfl
theorem ok10 : callOk Try.prog 10 = true := by kernel_rfl
theorem ok11 : callOk Try.prog 11 = true := by kernel_rfl
theorem ok12 : callOk Try.prog 12 = true := by kernel_rfl
theorem ok13 : callOk Try.prog 13 = true := by kernel_rfl
theorem ok14 : callOk Try.prog 14 = true := by kernel_rfl
theorem ok15 : callOk Try.prog 15 = true := by kernel_rfl
theorem ok16 : callOk Try.prog 16 = true := by kernel_rfl
theorem ok17 : callOk Try.prog 17 = true := by kernel_rfl
theorem ok18 : callOk Try.prog 18 = true := by kernel_rfl
theorem ok19 : callOk Try.prog 19 = true := by kernel_rfl
theorem ok20 : callOk Try.prog 20 = true := by kernel_rfl
theorem ok21 : callOk Try.prog 21 = true := by kernel_rfl
theorem ok22 : callOk Try.prog 22 = true := by kernel_rfl
theorem ok23 : callOk Try.prog 23 = true := by kernel_rfl
theorem ok24 : callOk Try.prog 24 = true := by kernel_rfl
theorem ok25 : callOk Try.prog 25 = true := by kernel_rfl
theorem ok26 : callOk Try.prog 26 = true := by kernel_rfl
theorem ok27 : callOk Try.prog 27 = true := by kernel_rfl
theorem ok28 : callOk Try.prog 28 = true := by kernel_rfl
theorem ok29 : callOk Try.prog 29 = true := by kernel_rfl
theorem ok30 : callOk Try.prog 30 = true := by kernel_rfl
theorem ok31 : callOk Try.prog 31 = true := by kernel_rfl
theorem ok32 : callOk Try.prog 32 = true := by kernel_rfl
theorem ok33 : callOk Try.prog 33 = true := by kernel_rfl
theorem ok34 : callOk Try.prog 34 = true := by kernel_rfl
theorem ok35 : callOk Try.prog 35 = true := by kernel_rfl
theorem ok36 : callOk Try.prog 36 = true := by kernel_rfl
theorem ok37 : callOk Try.prog 37 = true := by kernel_rfl
theorem ok38 : callOk Try.prog 38 = true := by kernel_rfl
theorem ok39 : callOk Try.prog 39 = true := by kernel_rfl
theorem ok40 : callOk Try.prog 40 = true := by kernel_rfl
theorem ok41 : callOk Try.prog 41 = true := by kernel_rfl
theorem ok42 : callOk Try.prog 42 = true := by kernel_rfl
theorem ok43 : callOk Try.prog 43 = true := by kernel_rfl
theorem ok44 : callOk Try.prog 44 = true := by kernel_rfl
theorem ok45 : callOk Try.prog 45 = true := by kernel_rfl
theorem ok46 : callOk Try.prog 46 = true := by kernel_rfl
theorem ok47 : callOk Try.prog 47 = true := by kernel_rfl
theorem ok48 : callOk Try.prog 48 = true := by kernel_rfl
theorem ok49 : callOk Try.prog 49 = true := by kernel_rfl
theorem ok50 : callOk Try.prog 50 = true := by kernel_rfl
theorem ok51 : callOk Try.prog 51 = true := by kernel_rfl
theorem ok52 : callOk Try.prog 52 = true := by kernel_rfl
theorem ok53 : callOk Try.prog 53 = true := by kernel_rfl
theorem ok54 : callOk Try.prog 54 = true := by kernel_rfl
theorem ok55 : callOk Try.prog 55 = true := by kernel_rfl
theorem ok56 : callOk Try.prog 56 = true := by kernel_rfl
theorem ok57 : callOk Try.prog 57 = true := by kernel_rfl
theorem ok58 : callOk Try.prog 58 = true := by kernel_rfl
theorem ok59 : callOk Try.prog 59 = true := by kernel_rfl
theorem ok60 : callOk Try.prog 60 = true := by kernel_rfl
theorem ok61 : callOk Try.prog 61 = true := by kernel_rfl
theorem ok62 : callOk Try.prog 62 = true := by kernel_rfl
theorem ok63 : callOk Try.prog 63 = true := by kernel_rfl
theorem ok64 : callOk Try.prog 64 = true := by kernel_rfl
theorem ok65 : callOk Try.prog 65 = true := by kernel_rfl
theorem ok66 : callOk Try.prog 66 = true := by kernel_rfl
theorem ok67 : callOk Try.prog 67 = true := by kernel_rfl
theorem ok68 : callOk Try.prog 68 = true := by kernel_rfl
theorem ok69 : callOk Try.prog 69 = true := by kernel_rfl
theorem ok70 : callOk Try.prog 70 = true := by kernel_rfl
theorem ok71 : callOk Try.prog 71 = true := by kernel_rfl
theorem ok72 : callOk Try.prog 72 = true := by kernel_rfl
theorem ok73 : callOk Try.prog 73 = true := by kernel_rfl
theorem ok74 : callOk Try.prog 74 = true := by kernel_rfl
theorem ok75 : callOk Try.prog 75 = true := by kernel_rfl
theorem ok76 : callOk Try.prog 76 = true := by kernel_rfl
theorem ok77 : callOk Try.prog 77 = true := by kernel_rfl
theorem ok78 : callOk Try.prog 78 = true := by kernel_rfl
theorem ok79 : callOk Try.prog 79 = true := by kernel_rfl
theorem ok80 : callOk Try.prog 80 = true := by kernel_rfl
theorem ok81 : callOk Try.prog 81 = true := by kernel_rfl
theorem ok82 : callOk Try.prog 82 = true := by kernel_rfl
theorem ok83 : callOk Try.prog 83 = true := by kernel_rfl
theorem ok84 : callOk Try.prog 84 = true := by kernel_rfl
theorem ok85 : callOk Try.prog 85 = true := by kernel_rfl
theorem ok86 : callOk Try.prog 86 = true := by kernel_rfl
theorem ok87 : callOk Try.prog 87 = true := by kernel_rfl
theorem ok88 : callOk Try.prog 88 = true := by kernel_rfl
theorem ok89 : callOk Try.prog 89 = true := by kernel_rfl
theorem ok90 : callOk Try.prog 90 = true := by kernel_rfl
theorem ok91 : callOk Try.prog 91 = true := by kernel_rfl
theorem ok92 : callOk Try.prog 92 = true := by kernel_rfl
theorem ok93 : callOk Try.prog 93 = true := by kernel_rfl
theorem ok94 : callOk Try.prog 94 = true := by kernel_rfl
theorem ok95 : callOk Try.prog 95 = true := by kernel_rfl
theorem ok96 : callOk Try.prog 96 = true := by kernel_rfl
theorem ok97 : callOk Try.prog 97 = true := by kernel_rfl
theorem ok98 : callOk Try.prog 98 = true := by kernel_rfl
theorem ok99 : callOk Try.prog 99 = true := by kernel_rfl
theorem ok100 : callOk Try.prog 100 = true := by kernel_rfl
theorem ok101 : callOk Try.prog 101 = true := by kernel_rfl
theorem ok102 : callOk Try.prog 102 = true := by kernel_rfl
theorem ok103 : callOk Try.prog 103 = true := by kernel_rfl
theorem ok104 : callOk Try.prog 104 = true := by kernel_rfl
theorem ok105 : callOk Try.prog 105 = true := by kernel_rfl
theorem ok106 : callOk Try.prog 106 = true := by kernel_rfl
theorem ok107 : callOk Try.prog 107 = true := by kernel_rfl
theorem ok108 : callOk Try.prog 108 = true := by kernel_rfl
theorem ok109 : callOk Try.prog 109 = true := by kernel_rfl
theorem ok110 : callOk Try.prog 110 = true := by kernel_rfl
theorem ok111 : callOk Try.prog 111 = true := by kernel_rfl
theorem ok112 : callOk Try.prog 112 = true := by kernel_rfl
theorem ok113 : callOk Try.prog 113 = true := by kernel_rfl
theorem ok114 : callOk Try.prog 114 = true := by kernel_rfl
theorem ok115 : callOk Try.prog 115 = true := by kernel_rfl
theorem ok116 : callOk Try.prog 116 = true := by kernel_rfl
theorem ok117 : callOk Try.prog 117 = true := by kernel_rfl
theorem ok119 : callOk Try.prog 119 = true := by kernel_rfl
theorem ok120 : callOk Try.prog 120 = true := by kernel_rfl
theorem ok121 : callOk Try.prog 121 = true := by kernel_rfl
theorem ok122 : callOk Try.prog 122 = true := by kernel_rfl
theorem ok123 : callOk Try.prog 123 = true := by kernel_rfl
theorem ok124 : callOk Try.prog 124 = true := by kernel_rfl
theorem ok125 : callOk Try.prog 125 = true := by kernel_rfl
theorem ok126 : callOk Try.prog 126 = true := by kernel_rfl
theorem ok127 : callOk Try.prog 127 = true := by kernel_rfl
theorem ok128 : callOk Try.prog 128 = true := by kernel_rfl
theorem ok129 : callOk Try.prog 129 = true := by kernel_rfl
theorem ok130 : callOk Try.prog 130 = true := by kernel_rfl
theorem ok131 : callOk Try.prog 131 = true := by kernel_rfl
theorem ok132 : callOk Try.prog 132 = true := by kernel_rfl
theorem ok133 : callOk Try.prog 133 = true := by kernel_rfl
theorem ok134 : callOk Try.prog 134 = true := by kernel_rfl
theorem ok135 : callOk Try.prog 135 = true := by kernel_rfl
theorem ok136 : callOk Try.prog 136 = true := by kernel_rfl
theorem ok137 : callOk Try.prog 137 = true := by kernel_rfl
theorem ok138 : callOk Try.prog 138 = true := by kernel_rfl
theorem ok139 : callOk Try.prog 139 = true := by kernel_rfl
theorem ok140 : callOk Try.prog 140 = true := by kernel_rfl
theorem ok141 : callOk Try.prog 141 = true := by kernel_rfl
theorem ok142 : callOk Try.prog 142 = true := by kernel_rfl
theorem ok143 : callOk Try.prog 143 = true := by kernel_rfl
theorem ok144 : callOk Try.prog 144 = true := by kernel_rfl
theorem ok145 : callOk Try.prog 145 = true := by kernel_rfl
theorem ok146 : callOk Try.prog 146 = true := by kernel_rfl
theorem ok147 : callOk Try.prog 147 = true := by kernel_rfl
theorem ok148 : callOk Try.prog 148 = true := by kernel_rfl
theorem ok149 : callOk Try.prog 149 = true := by kernel_rfl
theorem ok150 : callOk Try.prog 150 = true := by kernel_rfl
theorem ok151 : callOk Try.prog 151 = true := by kernel_rfl
theorem ok152 : callOk Try.prog 152 = true := by kernel_rfl
theorem ok153 : callOk Try.prog 153 = true := by kernel_rfl
theorem ok154 : callOk Try.prog 154 = true := by kernel_rfl
theorem ok155 : callOk Try.prog 155 = true := by kernel_rfl
theorem ok156 : callOk Try.prog 156 = true := by kernel_rfl
theorem ok157 : callOk Try.prog 157 = true := by kernel_rfl
theorem ok158 : callOk Try.prog 158 = true := by kernel_rfl
theorem ok159 : callOk Try.prog 159 = true := by kernel_rfl
theorem ok160 : callOk Try.prog 160 = true := by kernel_rfl
theorem ok161 : callOk Try.prog 161 = true := by kernel_rfl
theorem ok162 : callOk Try.prog 162 = true := by kernel_rfl
theorem ok163 : callOk Try.prog 163 = true := by kernel_rfl
theorem ok164 : callOk Try.prog 164 = true := by kernel_rfl
theorem ok165 : callOk Try.prog 165 = true := by kernel_rfl
theorem ok166 : callOk Try.prog 166 = true := by kernel_rfl
theorem ok167 : callOk Try.prog 167 = true := by kernel_rfl
theorem ok168 : callOk Try.prog 168 = true := by kernel_rfl
theorem ok169 : callOk Try.prog 169 = true := by kernel_rfl
theorem ok170 : callOk Try.prog 170 = true := by kernel_rfl
theorem ok171 : callOk Try.prog 171 = true := by kernel_rfl
theorem ok172 : callOk Try.prog 172 = true := by kernel_rfl
theorem ok173 : callOk Try.prog 173 = true := by kernel_rfl
theorem ok174 : callOk Try.prog 174 = true := by kernel_rfl
theorem ok175 : callOk Try.prog 175 = true := by kernel_rfl
theorem ok176 : callOk Try.prog 176 = true := by kernel_rfl
theorem ok177 : callOk Try.prog 177 = true := by kernel_rfl
theorem ok178 : callOk Try.prog 178 = true := by kernel_rfl
theorem ok179 : callOk Try.prog 179 = true := by kernel_rfl
theorem ok180 : callOk Try.prog 180 = true := by kernel_rfl
theorem ok181 : callOk Try.prog 181 = true := by kernel_rfl
theorem ok182 : callOk Try.prog 182 = true := by kernel_rfl
theorem mixed : Try.prog.follows .mixedOrders = true := by kernel_rfl
end Go.Proofs.Ytmhdbphpmgjpcaa

/- Walks, written by a program: what each function of the translation hands back. -/
namespace Go.Proofs.Ytmhdbphpmgjpcaa
open Go.Gx Go.RowKit
attribute [local irreducible] wpList wpStill Code.wp Calls

theorem New_s (n : Int) (w : World) (hn : -9223372036854775808 ≤ n ∧ n ≤ 9223372036854775807) : Ret Try.prog 17 #[(Value.int .i64 n)] w (fun v' w' => Below w.heap.size w w' ∧ ∃ p c, v' = ptr p 0 ∧ w.heap.size ≤ p ∧ w.heap.size ≤ c ∧ Bx w' p 126 [.chan (some c), .slice none 0 0] ∧ ChC w' c (min (max n 0) 1000).toNat []) := by
 have hb := Below.refl w.heap.size w
 refine enter (N := 9) Try.func17 rfl rfl (by simp) fun a0 hN hd hA => ?_
 have s0 : a0.tmps.getD 0 undef = (Value.int .i64 n) := hA 0 (by simp)
 clear hA
 refine seq_any fun K1 hK1 => ?_
 refine one_reg ?_
 refine op_assign rfl ?_
 refine reg_nil ?_
 refine hK1 _ _ ?_
 refine seq_any fun K2 hK2 => ?_
 refine one_reg ?_
 refine op_move (ev_base hN rfl s0) ?_
 refine op_max (r := (max n 0)) (ev_hit hN rfl) rfl (by omega) ?_
 refine op_min (r := (((min (max n 0) 1000).toNat : Nat) : Int)) (ev_hit hN rfl) rfl (by omega) ?_
 refine op_mkchan (n := (min (max n 0) 1000).toNat) Try.underlying124 (by_ := 16) (by kernel_rfl) (ev_hit hN rfl) (by omega) (by decide) ?_
 intro w3 c5 lo_c5 hi_c5 hC6 E4
 have z_w3 := E4.size
 have hb := below_step0 hb E4 hb.size
 refine op_build (pv := [(0, (Value.chan (some c5)))]) (v := (Value.agg #[(Value.chan (some c5)), (Value.slice none 0 0)])) ⟨rfl, (ev_hit hN rfl), trivial⟩ (by kernel_rfl) ?_
 refine op_box (cs := [(Value.chan (some c5)), (Value.slice none 0 0)]) (ev_hit hN rfl) rfl ?_
 intro w7 b8 lo_b8 hi_b8 hB10 E9
 have z_w7 := E9.size
 have hC6 := hC6.keep0 E9
 have hb := below_step0 hb E9 hb.size
 refine op_assign (ev_hit hN rfl) ?_
 refine reg_nil ?_
 refine hK2 _ _ ?_
 refine wp_ret ?_
 refine ret1 rfl hd (ev_hit hN rfl) ⟨_, rfl, ?_⟩
 -- path
 exact ⟨hb, b8, c5, rfl, by omega, by omega, hB10, hC6⟩

theorem Len_s (H B : List (List UInt8)) (hv : Value) (base p c cap : Nat) (w : World) (hbase : base ≤ w.heap.size) (hH : H.length ≤ 1) (hcap : H.length + B.length ≤ cap) (hcm : cap ≤ 1000) (hx : Bx w p 126 [.chan (some c), hv]) (O : Own w base 9 1 hv H.length (H.map sv)) (hC : ChC w c cap (B.map sv)) : Ret Try.prog 23 #[(ptr p 0)] w (fun v' w' => Below w.heap.size w w' ∧ v' = .int .i64 ((H.length + B.length : Nat) : Int)) := by
 have hb := Below.refl w.heap.size w
 refine enter (N := 16) Try.func23 rfl rfl (by simp) fun a0 hN hd hA => ?_
 have s0 : a0.tmps.getD 0 undef = (ptr p 0) := hA 0 (by simp)
 clear hA
 refine seq_any fun K11 hK11 => ?_
 refine one_reg ?_
 refine op_assign rfl ?_
 refine reg_nil ?_
 refine hK11 _ _ ?_
 refine seq_any fun K12 hK12 => ?_
 refine seq_any fun K13 hK13 => ?_
 refine one_reg ?_
 refine op_move (ev_base hN rfl s0) ?_
 refine op_peq_some ptrt24 (ev_hit hN rfl) rfl ?_
 refine reg_nil ?_
 refine hK13 _ _ ?_
 refine wp_cond_false (ev_hit hN rfl) ?_
 refine wp_skip ?_
 refine hK12 _ _ ?_
 refine seq_any fun K14 hK14 => ?_
 refine reg_still mixed (by kernel_rfl) ?_
 intro w16 E15
 have z_w16 := E15.size
 have hx := hx.keep0 E15
 have O := O.keep0 E15
 have hC := hC.keep0 E15
 have hb := below_step0 hb E15 hb.size
 refine st_step rfl (fun _ h9 => op_move (ev_base hN rfl s0) h9) ?_
 refine st_step rfl (fun _ h9 => op_nil (ev_hit hN rfl) h9) ?_
 refine st_step rfl (fun _ h9 => op_field fld126_1 (ev_hit hN rfl) h9) ?_
 refine st_step rfl (fun _ h9 => op_load1 (v := hv) one26 (ev_hit hN rfl) (hx.cell rfl) h9) ?_
 refine st_step rfl (fun _ h9 => op_len_rd Try.underlying26 (ev_hit hN rfl) O.rdw h9) ?_
 refine st_step rfl (fun _ h9 => op_move (ev_base hN rfl s0) h9) ?_
 refine st_step rfl (fun _ h9 => op_nil (ev_hit hN rfl) h9) ?_
 refine st_step rfl (fun _ h9 => op_field fld126_0 (ev_hit hN rfl) h9) ?_
 refine st_step rfl (fun _ h9 => op_load1 (v := (Value.chan (some c))) one124 (ev_hit hN rfl) (hx.cell rfl) h9) ?_
 refine st_step rfl (fun _ h9 => op_len_chanL Try.underlying124 (ev_hit hN rfl) hC h9) ?_
 refine st_step rfl (fun _ h9 => op_add (ev_hit hN rfl) (ev_hit hN rfl) (add64 (by omega)) h9) ?_
 refine st_step rfl (fun _ h9 => op_assign (ev_hit hN rfl) h9) ?_
 refine st_nil ?_
 refine hK14 _ _ ?_
 refine wp_ret ?_
 refine ret1 rfl hd (ev_hit hN rfl) ⟨_, rfl, ?_⟩
 -- path
 exact ⟨hb, congrArg (Value.int .i64) (by omega)⟩

theorem Put_s (x : List UInt8) (H B : List (List UInt8)) (hv : Value) (base p c cap : Nat) (w : World) (hbase : base ≤ w.heap.size) (hH : H.length ≤ 1) (hcap : H.length + B.length ≤ cap) (hcm : cap ≤ 1000) (hx : Bx w p 126 [.chan (some c), hv]) (O : Own w base 9 1 hv H.length (H.map sv)) (hC : ChC w c cap (B.map sv)) : Ret Try.prog 18 #[(ptr p 0), (Value.string (bs x))] w (fun v' w' => w.grownBy w' (some c) ∧ v' = .bool (decide (H.length + B.length < cap)) ∧ ChC w' c cap ((if H.length + B.length < cap then B ++ [x] else B).map sv)) := by
 have hb := grown_refl w (some c)
 refine enter (N := 25) Try.func18 rfl rfl (by simp) fun a0 hN hd hA => ?_
 have s0 : a0.tmps.getD 0 undef = (ptr p 0) := hA 0 (by simp)
 have s1 : a0.tmps.getD 1 undef = (Value.string (bs x)) := hA 1 (by simp)
 clear hA
 refine seq_any fun K17 hK17 => ?_
 refine one_reg ?_
 refine op_assign rfl ?_
 refine reg_nil ?_
 refine hK17 _ _ ?_
 refine seq_any fun K18 hK18 => ?_
 refine seq_any fun K19 hK19 => ?_
 refine reg_split (hd := [_, _, _, _, _, _, _, _, _]) (tl := _) 9 mixed (by kernel_rfl) rfl rfl ?_
 refine any_quiet (Φ := phiL [(fun uz _ => uz = (ptr p 0)), (fun uz _ => uz = (Value.bool false)), (fun uz _ => uz = (Value.bool false)), (fun uz _ => uz = (ptr p 0)), (fun uz _ => uz = (Value.int .i64 (((H.length + B.length) : Nat) : Int))), (fun uz _ => uz = (ptr p 0)), (fun uz _ => uz = (ptr p 0)), (fun uz _ => uz = (ptr p 0)), (fun uz _ => uz = (Value.chan (some c)))]) (by kernel_rfl) (by kernel_rfl) (by kernel_rfl) hN (StL.get (StL.eq (StL.eq (StL.eq (StL.eq (StL.eq (StL.eq (StL.eq (StL.eq (StL.eq (StL.nil _))))))))))) (ObL.get (s := 9) (ObL.cons ?_ (ObL.cons ?_ (ObL.cons ?_ (ObL.cons ?_ (ObL.cons ?_ (ObL.cons ?_ (ObL.cons ?_ (ObL.cons ?_ (ObL.cons ?_ (ObL.nil)))))))))) rfl) ?_
 ·
  intro aA wA hNA hRA hbsA hdpA
  have qA_0 := (hbsA 0 rfl).trans (sl_base hN rfl s0)
  refine op_move (ev_base hNA rfl qA_0) ?_
  exact obN_end rfl rfl (grown_refl _ _)
 ·
  intro aA wA hNA hRA hbsA hdpA
  have qA_5 : Sl aA 5 (ptr p 0) := hdpA 0 _ 5 (by kernel_rfl) rfl rfl
  refine op_peq_some ptrt24 (ev_base hNA rfl qA_5) rfl ?_
  exact obN_end rfl rfl (grown_refl _ _)
 ·
  intro aA wA hNA hRA hbsA hdpA
  have qA_6 : Sl aA 6 (Value.bool false) := hdpA 1 _ 6 (by kernel_rfl) rfl rfl
  refine op_move (ev_base hNA rfl qA_6) ?_
  exact obN_end rfl rfl (grown_refl _ _)
 ·
  intro aA wA hNA hRA hbsA hdpA
  have qA_0 := (hbsA 0 rfl).trans (sl_base hN rfl s0)
  have qA_7 : Sl aA 7 (Value.bool false) := hdpA 2 _ 7 (by kernel_rfl) rfl rfl
  refine g_true (j := 2) (dj := 7) (b := false) rfl rfl rfl (ev_base hNA rfl qA_7) ?_
  refine op_move (ev_base hNA rfl qA_0) ?_
  exact obN_end rfl rfl (grown_refl _ _)
 ·
  intro aA wA hNA hRA hbsA hdpA
  have hRA : w.grownBy wA none := hRA
  have z_wA := hRA.size
  have hx := hx.keep0 hRA
  have O := O.keep0 hRA
  have hC := hC.keep0 hRA
  have hb := grow_step0 hb hRA
  have qA_8 : Sl aA 8 (ptr p 0) := hdpA 3 _ 8 (by kernel_rfl) rfl rfl
  have qA_7 : Sl aA 7 (Value.bool false) := hdpA 2 _ 7 (by kernel_rfl) rfl rfl
  clear hbsA hdpA
  refine g_true (j := 2) (dj := 7) (b := false) rfl rfl rfl (ev_base hNA rfl qA_7) ?_
  refine op_fn (vs := [(ptr p 0)]) ok23 ⟨(ev_base hNA rfl qA_8), trivial⟩ (Len_s H B hv _ _ _ _ _ (by omega) (by first | assumption | (simp; done) | (simp; omega) | omega) (by first | assumption | (simp; done) | (simp; omega) | omega) (by first | assumption | (simp; done) | (simp; omega) | omega) hx O hC) ?_
  rintro _ w20 ⟨E21, rfl⟩
  have E21 := grown_of_below E21
  have z_w20 := E21.size
  have hx := hx.keep0 E21
  have O := O.keep0 E21
  have hC := hC.keep0 E21
  have hb := grow_step0 hb E21
  exact obN_end rfl rfl (E21)
 ·
  intro aA wA hNA hRA hbsA hdpA
  have qA_0 := (hbsA 0 rfl).trans (sl_base hN rfl s0)
  have qA_7 : Sl aA 7 (Value.bool false) := hdpA 2 _ 7 (by kernel_rfl) rfl rfl
  refine g_true (j := 2) (dj := 7) (b := false) rfl rfl rfl (ev_base hNA rfl qA_7) ?_
  refine op_move (ev_base hNA rfl qA_0) ?_
  exact obN_end rfl rfl (grown_refl _ _)
 ·
  intro aA wA hNA hRA hbsA hdpA
  have qA_10 : Sl aA 10 (ptr p 0) := hdpA 5 _ 10 (by kernel_rfl) rfl rfl
  have qA_7 : Sl aA 7 (Value.bool false) := hdpA 2 _ 7 (by kernel_rfl) rfl rfl
  refine g_true (j := 2) (dj := 7) (b := false) rfl rfl rfl (ev_base hNA rfl qA_7) ?_
  refine op_nil (ev_base hNA rfl qA_10) ?_
  exact obN_end rfl rfl (grown_refl _ _)
 ·
  intro aA wA hNA hRA hbsA hdpA
  have qA_11 : Sl aA 11 (ptr p 0) := hdpA 6 _ 11 (by kernel_rfl) rfl rfl
  have qA_7 : Sl aA 7 (Value.bool false) := hdpA 2 _ 7 (by kernel_rfl) rfl rfl
  refine g_true (j := 2) (dj := 7) (b := false) rfl rfl rfl (ev_base hNA rfl qA_7) ?_
  refine op_field fld126_0 (ev_base hNA rfl qA_11) ?_
  exact obN_end rfl rfl (grown_refl _ _)
 ·
  intro aA wA hNA hRA hbsA hdpA
  have hRA : w.grownBy wA none := hRA
  have z_wA := hRA.size
  have hx := hx.keep0 hRA
  have O := O.keep0 hRA
  have hC := hC.keep0 hRA
  have hb := grow_step0 hb hRA
  have qA_12 : Sl aA 12 (ptr p 0) := hdpA 7 _ 12 (by kernel_rfl) rfl rfl
  have qA_7 : Sl aA 7 (Value.bool false) := hdpA 2 _ 7 (by kernel_rfl) rfl rfl
  clear hbsA hdpA
  refine g_true (j := 2) (dj := 7) (b := false) rfl rfl rfl (ev_base hNA rfl qA_7) ?_
  refine op_load1 (v := (Value.chan (some c))) one124 (ev_base hNA rfl qA_12) (hx.cell rfl) ?_
  exact obN_end rfl rfl (grown_refl _ _)
 ·
  intro a22 w22 hN22 hd22 hbs22 hph22 E22
  have hd22 := hd22.trans hd
  have s22_0 := (hbs22 0 rfl).trans (sl_base hN rfl s0)
  have s22_1 := (hbs22 1 rfl).trans (sl_base hN rfl s1)
  have s22_4 := (hbs22 4 rfl).trans (sl_hit hN rfl)
  have s22_7 : Sl a22 7 (Value.bool false) := hph22 2 _ 7 rfl rfl
  have s22_9 : Sl a22 9 (Value.int .i64 (((H.length + B.length) : Nat) : Int)) := hph22 4 _ 9 rfl rfl
  have s22_13 : Sl a22 13 (Value.chan (some c)) := hph22 8 _ 13 rfl rfl
  clear hbs22 hph22
  have E22 : w.grownBy w22 none := E22
  have z_w22 := E22.size
  have hx := hx.keep0 E22
  have O := O.keep0 E22
  have hC := hC.keep0 E22
  have hb := grow_step0 hb E22
  refine split_end ?_
  refine from_seq (tl := [_, _, _]) (by decide) (by kernel_rfl) rfl ?_
  refine g_true (j := 2) (dj := 7) (b := false) rfl rfl rfl (ev_base hN22 rfl s22_7) ?_
  refine op_cap_chan Try.underlying124 (ev_base hN22 rfl s22_13) hC ?_
  refine g_true (j := 2) (dj := 7) (b := false) rfl rfl rfl (ev_base hN22 rfl s22_7) ?_
  refine op_geq (ev_base hN22 rfl s22_9) (ev_hit hN22 rfl) (fun c15 => ?_) (fun c15 => ?_)
  · -- 15T
   refine op_pick_f (ev_base hN22 rfl s22_7) (ev_hit hN22 rfl) ?_
   refine reg_nil ?_
   refine hK19 _ _ ?_
   refine wp_cond_true (ev_hit hN22 rfl) ?_
   refine seq_any fun K23 hK23 => ?_
   refine one_reg ?_
   refine op_assign rfl ?_
   refine reg_nil ?_
   refine hK23 _ _ ?_
   refine wp_ret (then_ret ( ?_))
   refine ret1 rfl hd22 (ev_hit hN22 rfl) ⟨_, rfl, ?_⟩
   -- path 15T
   exact ⟨hb, congrArg Value.bool (by first | exact (decide_eq_true (by omega)).symm | exact (decide_eq_false (by omega)).symm), by (first | rw [if_pos (by omega)] | rw [if_neg (by omega)]); exact hC⟩
  · -- 15F
   refine op_pick_f (ev_base hN22 rfl s22_7) (ev_hit hN22 rfl) ?_
   refine reg_nil ?_
   refine hK19 _ _ ?_
   refine wp_cond_false (ev_hit hN22 rfl) ?_
   refine wp_skip ?_
   refine hK18 _ _ ?_
   refine seq_any fun K24 hK24 => ?_
   refine seq_any fun K25 hK25 => ?_
   refine one_reg ?_
   refine op_move (ev_base hN22 rfl s22_0) ?_
   refine op_nil (ev_hit hN22 rfl) ?_
   refine op_field fld126_0 (ev_hit hN22 rfl) ?_
   refine op_load1 (v := (Value.chan (some c))) one124 (ev_hit hN22 rfl) (hx.cell rfl) ?_
   refine reg_nil ?_
   refine hK25 _ _ ?_
   refine one_reg ?_
   refine op_move (ev_base hN22 rfl s22_1) ?_
   refine reg_nil ?_
   refine hK24 _ _ ?_
   refine seq_any fun K26 hK26 => ?_
   have hC_old := hC
   refine reg_send zero9 (ev_hit hN22 rfl) (ev_hit hN22 rfl) hC (fun w27 hr30 hC29 E28 => ?_) (fun hr30 => ?_)
   · -- 22T
    have hr30 : B.length < cap := by simpa using hr30
    have hC29 : ChC w27 c cap ((B ++ [x]).map sv) := by simpa [sv] using hC29
    have z_w27 := E28.size
    have hx := hx.keepC hC_old E28
    have O := O.keepC hC_old E28
    have hb := grown_trans hb E28
    refine op_extract (ev_hit hN22 rfl) rfl ?_
    refine op_bin (v := .bool true) (ev_hit hN22 rfl) rfl (by rw [binOp_eql]; rfl) ?_
    refine reg_nil ?_
    refine hK26 _ _ ?_
    refine wp_block ?_
    refine wp_cond_true (ev_hit hN22 rfl) ?_
    refine seq_any fun K31 hK31 => ?_
    refine one_reg ?_
    refine op_assign rfl ?_
    refine reg_nil ?_
    refine hK31 _ _ ?_
    refine wp_ret (blk_ret ( ?_))
    refine ret1 rfl hd22 (ev_hit hN22 rfl) ⟨_, rfl, ?_⟩
    -- path 15F 22T
    exact ⟨hb, congrArg Value.bool (by first | exact (decide_eq_true (by omega)).symm | exact (decide_eq_false (by omega)).symm), by (first | rw [if_pos (by omega)] | rw [if_neg (by omega)]); exact hC29⟩
   · -- 22F
    have hr30 : cap ≤ B.length := by simpa using hr30
    exfalso; omega

theorem Head_s (H B : List (List UInt8)) (hv : Value) (base p c cap : Nat) (w : World) (hbase : base ≤ w.heap.size) (hH : H.length ≤ 1) (hcap : H.length + B.length ≤ cap) (hcm : cap ≤ 1000) (hx : Bx w p 126 [.chan (some c), hv]) (O : Own w base 9 1 hv H.length (H.map sv)) (hC : ChC w c cap (B.map sv)) : Ret Try.prog 19 #[(ptr p 0)] w (fun v' w' => Gr2 w w' (some c) (some p) ∧ v' = .tuple #[(Value.string (bs ((H ++ B).getD 0 []))), .bool (decide (0 < (H ++ B).length))] ∧ ∃ (hv' : Value) (H' B' : List (List UInt8)), Bx w' p 126 [.chan (some c), hv'] ∧ Own w' base 9 1 hv' H'.length (H'.map sv) ∧ ChC w' c cap (B'.map sv) ∧ H' ++ B' = (H ++ B) ∧ H'.length ≤ 1 ∧ FrO hv hv' w.heap.size ∧ (0 < (H ++ B).length → 0 < H'.length)) := by
 have hi_p := hx.lt
 have hi_c := hC.lt
 have hb := Gr2.refl w (some c) (some p)
 refine enter (N := 35) Try.func19 rfl rfl (by simp) fun a0 hN hd hA => ?_
 have s0 : a0.tmps.getD 0 undef = (ptr p 0) := hA 0 (by simp)
 clear hA
 refine seq_any fun K32 hK32 => ?_
 refine one_reg ?_
 refine op_assign rfl ?_
 refine op_assign rfl ?_
 refine reg_nil ?_
 refine hK32 _ _ ?_
 refine seq_any fun K33 hK33 => ?_
 refine one_reg ?_
 refine op_assign rfl ?_
 refine reg_nil ?_
 refine hK33 _ _ ?_
 refine seq_any fun K34 hK34 => ?_
 refine seq_any fun K35 hK35 => ?_
 refine one_reg ?_
 refine op_move (ev_base hN rfl s0) ?_
 refine op_peq_some ptrt24 (ev_hit hN rfl) rfl ?_
 refine reg_nil ?_
 refine hK35 _ _ ?_
 refine wp_cond_false (ev_hit hN rfl) ?_
 refine wp_skip ?_
 refine hK34 _ _ ?_
 refine seq_any fun K36 hK36 => ?_
 refine seq_any fun K37 hK37 => ?_
 refine one_reg ?_
 refine op_move (ev_base hN rfl s0) ?_
 refine op_nil (ev_hit hN rfl) ?_
 refine op_field fld126_1 (ev_hit hN rfl) ?_
 refine op_load1 (v := hv) one26 (ev_hit hN rfl) (hx.cell rfl) ?_
 refine op_len_rd Try.underlying26 (ev_hit hN rfl) O.rdw ?_
 refine op_eql (ev_hit hN rfl) rfl (fun c14 => ?_) (fun c14 => ?_)
 · -- 14T
  refine reg_nil ?_
  refine hK37 _ _ ?_
  refine wp_cond_true (ev_hit hN rfl) ?_
  refine seq_any fun K38 hK38 => ?_
  refine one_reg ?_
  refine op_move (ev_base hN rfl s0) ?_
  refine op_nil (ev_hit hN rfl) ?_
  refine op_field fld126_0 (ev_hit hN rfl) ?_
  refine op_load1 (v := (Value.chan (some c))) one124 (ev_hit hN rfl) (hx.cell rfl) ?_
  refine reg_nil ?_
  refine hK38 _ _ ?_
  refine seq_any fun K39 hK39 => ?_
  have hC_old := hC
  refine reg_recv (f := sv) zero9 (ev_hit hN rfl) hC (fun y43 M44 w40 hL45 hC42 E41 => ?_) (fun hL45 => ?_)
  · -- 19T
   have z_w40 := E41.size
   have hx := hx.keepC hC_old E41
   have O := O.keepC hC_old E41
   have hb := hb.stepA E41
   refine op_extract (ev_hit hN rfl) rfl ?_
   refine op_bin (v := .bool true) (ev_hit hN rfl) rfl (by rw [binOp_eql]; rfl) ?_
   refine reg_nil ?_
   refine hK39 _ _ ?_
   refine wp_block ?_
   refine wp_cond_true (ev_hit hN rfl) ?_
   refine seq_any fun K46 hK46 => ?_
   refine one_reg ?_
   refine op_extract (ev_hit hN rfl) rfl ?_
   refine op_assign (ev_hit hN rfl) ?_
   refine reg_nil ?_
   refine hK46 _ _ ?_
   refine one_reg ?_
   refine op_move (ev_base hN rfl s0) ?_
   refine op_move (ev_hit hN rfl) ?_
   refine op_bslice (e := 9) (pv := [(0, (Value.string (bs y43)))]) (cs := [(Value.string (bs y43))]) ⟨rfl, (ev_hit hN rfl), trivial⟩ (by kernel_rfl) ?_
   intro w47 b48 lo_b48 hi_b48 hB50 E49
   have ne_b48_hv : hv.ownBlock ≠ some b48 := fun hh => by have := (O.lt _ hh).2; omega
   have z_w47 := E49.size
   have hx := hx.keep0 E49
   have O := O.keep0 E49
   have hC42 := hC42.keep0 E49
   have hb := hb.step0 E49
   refine op_nil (ev_hit hN rfl) ?_
   refine op_field fld126_1 (ev_hit hN rfl) ?_
   have hx_old := hx
   refine op_store (vs := [(Value.slice (some ⟨b48, 0, none⟩) 1 1)]) (cs' := [(Value.chan (some c)), (Value.slice (some ⟨b48, 0, none⟩) 1 1)]) size26 (ev_hit hN rfl) (ev_hit hN rfl) rfl rfl rfl hx (Nat.le_of_ble_eq_true rfl) rfl ?_
   intro w53 hx E54
   have z_w53 := E54.size
   have O := O.keepX hx_old E54 (by decide)
   have hC42 := hC42.keepB hx_old E54
   have hB50 := hB50.keep E54 (by simp; omega)
   have hb := hb.stepB E54
   refine reg_nil ?_
   refine hK36 _ _ ?_
   refine seq_any fun K55 hK55 => ?_
   refine one_reg ?_
   refine op_move (ev_base hN rfl s0) ?_
   refine op_nil (ev_hit hN rfl) ?_
   refine op_field fld126_1 (ev_hit hN rfl) ?_
   refine op_load1 (v := (Value.slice (some ⟨b48, 0, none⟩) 1 1)) one26 (ev_hit hN rfl) (hx.cell rfl) ?_
   refine op_index_rd slt26 (ev_hit hN rfl) (RdC.ofBx (sz := 1) (n := 1) hB50 rfl (by decide)) rfl (by omega) (by omega) ?_
   intro b56 o57 h0b56 h1b56 hc58
   refine op_load1 (v := (Value.string (bs y43))) one9 (ev_hit hN rfl) (by have := hc58 0 (Value.string (bs y43)) (by decide) rfl; simpa using this) ?_
   refine op_assign (ev_hit hN rfl) ?_
   refine op_assign rfl ?_
   refine reg_nil ?_
   refine hK55 _ _ ?_
   refine wp_ret ?_
   refine ret2 rfl hd (ev_hit hN rfl) (ev_hit hN rfl) ⟨_, rfl, ?_⟩
   -- path 14T 19T
   obtain rfl := List.length_eq_zero_iff.1 (show H.length = 0 by omega)
   subst hL45
   exact ⟨hb, rfl, _, [y43], M44, hx, (Own.ofBx (sz := 1) (n := 1) hB50 rfl (by decide) (by omega)).cast rfl rfl, hC42, rfl, Nat.le_refl _, FrO.new _ _ (fun k hk => by simp [Value.ownBlock] at hk; omega), fun _ => by simp⟩
  · -- 19F
   refine op_extract (ev_hit hN rfl) rfl ?_
   refine op_bin (v := .bool false) (ev_hit hN rfl) rfl (by rw [binOp_eql]; rfl) ?_
   refine reg_nil ?_
   refine hK39 _ _ ?_
   refine wp_block ?_
   refine wp_cond_false (ev_hit hN rfl) ?_
   refine seq_any fun K59 hK59 => ?_
   refine one_reg ?_
   refine op_move (ev_hit hN rfl) ?_
   refine op_assign (ev_hit hN rfl) ?_
   refine op_assign rfl ?_
   refine reg_nil ?_
   refine hK59 _ _ ?_
   refine wp_ret (blk_ret (then_ret ( ?_)))
   refine ret2 rfl hd (ev_hit hN rfl) (ev_hit hN rfl) ⟨_, rfl, ?_⟩
   -- path 14T 19F
   obtain rfl := List.length_eq_zero_iff.1 (show H.length = 0 by omega)
   subst hL45
   exact ⟨hb, rfl, hv, [], [], hx, O, hC, rfl, by simp, FrO.refl _ _, by simp⟩
 · -- 14F
  refine reg_nil ?_
  refine hK37 _ _ ?_
  refine wp_cond_false (ev_hit hN rfl) ?_
  refine wp_skip ?_
  refine hK36 _ _ ?_
  refine seq_any fun K60 hK60 => ?_
  refine one_reg ?_
  refine op_move (ev_base hN rfl s0) ?_
  refine op_nil (ev_hit hN rfl) ?_
  refine op_field fld126_1 (ev_hit hN rfl) ?_
  refine op_load1 (v := hv) one26 (ev_hit hN rfl) (hx.cell rfl) ?_
  refine op_index_rd slt26 (ev_hit hN rfl) O.rdw rfl (by omega) (by omega) ?_
  intro b61 o62 h0b61 h1b61 hc63
  refine op_load1 (v := (Value.string (bs (H.getD 0 [])))) one9 (ev_hit hN rfl) (by have := hc63 0 (Value.string (bs (H.getD 0 []))) (by decide) (el_sv (i := 0) (by omega) (by omega)); simpa using this) ?_
  refine op_assign (ev_hit hN rfl) ?_
  refine op_assign rfl ?_
  refine reg_nil ?_
  refine hK60 _ _ ?_
  refine wp_ret ?_
  refine ret2 rfl hd (ev_hit hN rfl) (ev_hit hN rfl) ⟨_, rfl, ?_⟩
  -- path 14F
  exact ⟨hb, by rw [← getD_front (by omega)]; rw [decide_eq_true (by simp; omega)]; first | done | rfl, hv, H, B, hx, O, hC, rfl, hH, FrO.refl _ _, fun _ => by omega⟩

theorem Take_s (H B : List (List UInt8)) (hv : Value) (base p c cap : Nat) (w : World) (hbase : base ≤ w.heap.size) (hH : H.length ≤ 1) (hcap : H.length + B.length ≤ cap) (hcm : cap ≤ 1000) (hx : Bx w p 126 [.chan (some c), hv]) (O : Own w base 9 1 hv H.length (H.map sv)) (hC : ChC w c cap (B.map sv)) : Ret Try.prog 20 #[(ptr p 0)] w (fun v' w' => Gr2 w w' (some c) (some p) ∧ v' = .tuple #[(Value.string (bs ((H ++ B).getD 0 []))), .bool (decide (0 < (H ++ B).length))] ∧ ∃ (hv' : Value) (H' B' : List (List UInt8)), Bx w' p 126 [.chan (some c), hv'] ∧ Own w' base 9 1 hv' H'.length (H'.map sv) ∧ ChC w' c cap (B'.map sv) ∧ H' ++ B' = ((H ++ B).drop 1) ∧ H'.length ≤ 1 ∧ FrO hv hv' w.heap.size ∧ (True)) := by
 have hi_p := hx.lt
 have hi_c := hC.lt
 have hb := Gr2.refl w (some c) (some p)
 refine enter (N := 17) Try.func20 rfl rfl (by simp) fun a0 hN hd hA => ?_
 have s0 : a0.tmps.getD 0 undef = (ptr p 0) := hA 0 (by simp)
 clear hA
 refine seq_any fun K64 hK64 => ?_
 refine one_reg ?_
 refine op_assign rfl ?_
 refine op_assign rfl ?_
 refine reg_nil ?_
 refine hK64 _ _ ?_
 refine seq_any fun K65 hK65 => ?_
 refine one_reg ?_
 refine op_move (ev_base hN rfl s0) ?_
 refine op_fn (vs := [(ptr p 0)]) ok19 ⟨(ev_hit hN rfl), trivial⟩ (Head_s H B hv _ _ _ _ _ (by omega) (by first | assumption | (simp; done) | (simp; omega) | omega) (by first | assumption | (simp; done) | (simp; omega) | omega) (by first | assumption | (simp; done) | (simp; omega) | omega) hx O hC) ?_
 rintro _ w67 ⟨E68, rfl, hv66, H66, B66, hx66, hO66, hC66, he66, hl66, hm66, hn66⟩
 obtain ⟨w69, E70, E71⟩ := E68.split
 have hC_old := hC
 have hx_old := hx.keepC hC_old E70
 have z_w69 := E70.size
 have hb := hb.stepA E70
 have z_w67 := E71.size
 have hb := hb.stepB E71
 have hq_66 := congrArg List.length he66
 simp only [List.length_append, List.length_drop] at hq_66
 refine op_move (ev_hit hN rfl) ?_
 refine op_extract (ev_hit hN rfl) rfl ?_
 refine op_extract (ev_hit hN rfl) rfl ?_
 refine op_assign (ev_hit hN rfl) ?_
 refine op_assign (ev_hit hN rfl) ?_
 refine reg_nil ?_
 refine hK65 _ _ ?_
 refine seq_any fun K72 hK72 => ?_
 refine seq_any fun K73 hK73 => ?_
 refine one_reg ?_
 refine op_move (ev_hit hN rfl) ?_
 refine reg_nil ?_
 refine hK73 _ _ ?_
 refine wp_cond_split (ev_hit hN rfl) (fun c11 => ?_) (fun c11 => ?_)
 · -- 11T
  have c11 := of_decide_eq_true c11
  refine one_reg ?_
  refine op_move (ev_base hN rfl s0) ?_
  refine op_nil (ev_hit hN rfl) ?_
  refine op_field fld126_1 (ev_hit hN rfl) ?_
  have hx66_old := hx66
  refine op_store (vs := [(Value.slice none 0 0)]) (cs' := [(Value.chan (some c)), (Value.slice none 0 0)]) size26 (ev_hit hN rfl) rfl rfl rfl rfl hx66 (Nat.le_of_ble_eq_true rfl) rfl ?_
  intro w76 hx66 E77
  have z_w76 := E77.size
  have hO66 := hO66.keepX hx66_old E77 (by decide)
  have hC66 := hC66.keepB hx66_old E77
  have hb := hb.stepB E77
  refine reg_nil ?_
  refine hK72 _ _ ?_
  refine seq_any fun K78 hK78 => ?_
  refine one_reg ?_
  refine op_move (ev_hit hN rfl) ?_
  refine op_move (ev_hit hN rfl) ?_
  refine op_assign (ev_hit hN rfl) ?_
  refine op_assign (ev_hit hN rfl) ?_
  refine reg_nil ?_
  refine hK78 _ _ ?_
  refine wp_ret ?_
  refine ret2 rfl hd (ev_hit hN rfl) (ev_hit hN rfl) ⟨_, rfl, ?_⟩
  -- path 11T
  exact ⟨hb, rfl, _, [], B66, hx66, Own.nil _ _ _ _, hC66, (take0 hl66 (hn66 c11) _).trans (by rw [he66]), by simp, FrO.nil _ _, by simp⟩
 · -- 11F
  have c11 := of_decide_eq_false c11
  refine wp_skip ?_
  refine hK72 _ _ ?_
  refine seq_any fun K79 hK79 => ?_
  refine one_reg ?_
  refine op_move (ev_hit hN rfl) ?_
  refine op_move (ev_hit hN rfl) ?_
  refine op_assign (ev_hit hN rfl) ?_
  refine op_assign (ev_hit hN rfl) ?_
  refine reg_nil ?_
  refine hK79 _ _ ?_
  refine wp_ret ?_
  refine ret2 rfl hd (ev_hit hN rfl) (ev_hit hN rfl) ⟨_, rfl, ?_⟩
  -- path 11F
  have hz : H ++ B = [] := List.length_eq_zero_iff.1 (by omega)
  exact ⟨hb, rfl, hv66, H66, B66, hx66, hO66, hC66, by rw [he66, hz]; rfl, hl66, hm66, by simp⟩

theorem New_i (n : Int) (w : World) (hn : -9223372036854775808 ≤ n ∧ n ≤ 9223372036854775807) : Ret Try.prog 71 #[(Value.int .i64 n)] w (fun v' w' => Below w.heap.size w w' ∧ ∃ p c, v' = ptr p 0 ∧ w.heap.size ≤ p ∧ w.heap.size ≤ c ∧ Bx w' p 37 [.chan (some c), .slice none 0 0] ∧ ChC w' c (min (max n 0) 1000).toNat []) := by
 have hb := Below.refl w.heap.size w
 refine enter (N := 9) Try.func71 rfl rfl (by simp) fun a0 hN hd hA => ?_
 have s0 : a0.tmps.getD 0 undef = (Value.int .i64 n) := hA 0 (by simp)
 clear hA
 refine seq_any fun K80 hK80 => ?_
 refine one_reg ?_
 refine op_assign rfl ?_
 refine reg_nil ?_
 refine hK80 _ _ ?_
 refine seq_any fun K81 hK81 => ?_
 refine one_reg ?_
 refine op_move (ev_base hN rfl s0) ?_
 refine op_max (r := (max n 0)) (ev_hit hN rfl) rfl (by omega) ?_
 refine op_min (r := (((min (max n 0) 1000).toNat : Nat) : Int)) (ev_hit hN rfl) rfl (by omega) ?_
 refine op_mkchan (n := (min (max n 0) 1000).toNat) Try.underlying34 (by_ := 8) (by kernel_rfl) (ev_hit hN rfl) (by omega) (by decide) ?_
 intro w82 c84 lo_c84 hi_c84 hC85 E83
 have z_w82 := E83.size
 have hb := below_step0 hb E83 hb.size
 refine op_build (pv := [(0, (Value.chan (some c84)))]) (v := (Value.agg #[(Value.chan (some c84)), (Value.slice none 0 0)])) ⟨rfl, (ev_hit hN rfl), trivial⟩ (by kernel_rfl) ?_
 refine op_box (cs := [(Value.chan (some c84)), (Value.slice none 0 0)]) (ev_hit hN rfl) rfl ?_
 intro w86 b87 lo_b87 hi_b87 hB89 E88
 have z_w86 := E88.size
 have hC85 := hC85.keep0 E88
 have hb := below_step0 hb E88 hb.size
 refine op_assign (ev_hit hN rfl) ?_
 refine reg_nil ?_
 refine hK81 _ _ ?_
 refine wp_ret ?_
 refine ret1 rfl hd (ev_hit hN rfl) ⟨_, rfl, ?_⟩
 -- path
 exact ⟨hb, b87, c84, rfl, by omega, by omega, hB89, hC85⟩

theorem Len_i (H B : List Int) (hv : Value) (base p c cap : Nat) (w : World) (hbase : base ≤ w.heap.size) (hH : H.length ≤ 1) (hcap : H.length + B.length ≤ cap) (hcm : cap ≤ 1000) (hx : Bx w p 37 [.chan (some c), hv]) (O : Own w base 3 1 hv H.length (H.map (Value.int .i64))) (hC : ChC w c cap (B.map (Value.int .i64))) : Ret Try.prog 27 #[(ptr p 0)] w (fun v' w' => Below w.heap.size w w' ∧ v' = .int .i64 ((H.length + B.length : Nat) : Int)) := by
 have hb := Below.refl w.heap.size w
 refine enter (N := 16) Try.func27 rfl rfl (by simp) fun a0 hN hd hA => ?_
 have s0 : a0.tmps.getD 0 undef = (ptr p 0) := hA 0 (by simp)
 clear hA
 refine seq_any fun K90 hK90 => ?_
 refine one_reg ?_
 refine op_assign rfl ?_
 refine reg_nil ?_
 refine hK90 _ _ ?_
 refine seq_any fun K91 hK91 => ?_
 refine seq_any fun K92 hK92 => ?_
 refine one_reg ?_
 refine op_move (ev_base hN rfl s0) ?_
 refine op_peq_some ptrt33 (ev_hit hN rfl) rfl ?_
 refine reg_nil ?_
 refine hK92 _ _ ?_
 refine wp_cond_false (ev_hit hN rfl) ?_
 refine wp_skip ?_
 refine hK91 _ _ ?_
 refine seq_any fun K93 hK93 => ?_
 refine reg_still mixed (by kernel_rfl) ?_
 intro w95 E94
 have z_w95 := E94.size
 have hx := hx.keep0 E94
 have O := O.keep0 E94
 have hC := hC.keep0 E94
 have hb := below_step0 hb E94 hb.size
 refine st_step rfl (fun _ h9 => op_move (ev_base hN rfl s0) h9) ?_
 refine st_step rfl (fun _ h9 => op_nil (ev_hit hN rfl) h9) ?_
 refine st_step rfl (fun _ h9 => op_field fld37_1 (ev_hit hN rfl) h9) ?_
 refine st_step rfl (fun _ h9 => op_load1 (v := hv) one35 (ev_hit hN rfl) (hx.cell rfl) h9) ?_
 refine st_step rfl (fun _ h9 => op_len_rd Try.underlying35 (ev_hit hN rfl) O.rdw h9) ?_
 refine st_step rfl (fun _ h9 => op_move (ev_base hN rfl s0) h9) ?_
 refine st_step rfl (fun _ h9 => op_nil (ev_hit hN rfl) h9) ?_
 refine st_step rfl (fun _ h9 => op_field fld37_0 (ev_hit hN rfl) h9) ?_
 refine st_step rfl (fun _ h9 => op_load1 (v := (Value.chan (some c))) one34 (ev_hit hN rfl) (hx.cell rfl) h9) ?_
 refine st_step rfl (fun _ h9 => op_len_chanL Try.underlying34 (ev_hit hN rfl) hC h9) ?_
 refine st_step rfl (fun _ h9 => op_add (ev_hit hN rfl) (ev_hit hN rfl) (add64 (by omega)) h9) ?_
 refine st_step rfl (fun _ h9 => op_assign (ev_hit hN rfl) h9) ?_
 refine st_nil ?_
 refine hK93 _ _ ?_
 refine wp_ret ?_
 refine ret1 rfl hd (ev_hit hN rfl) ⟨_, rfl, ?_⟩
 -- path
 exact ⟨hb, congrArg (Value.int .i64) (by omega)⟩

theorem Put_i (x : Int) (H B : List Int) (hv : Value) (base p c cap : Nat) (w : World) (hbase : base ≤ w.heap.size) (hH : H.length ≤ 1) (hcap : H.length + B.length ≤ cap) (hcm : cap ≤ 1000) (hx : Bx w p 37 [.chan (some c), hv]) (O : Own w base 3 1 hv H.length (H.map (Value.int .i64))) (hC : ChC w c cap (B.map (Value.int .i64))) : Ret Try.prog 26 #[(ptr p 0), (Value.int .i64 x)] w (fun v' w' => w.grownBy w' (some c) ∧ v' = .bool (decide (H.length + B.length < cap)) ∧ ChC w' c cap ((if H.length + B.length < cap then B ++ [x] else B).map (Value.int .i64))) := by
 have hb := grown_refl w (some c)
 refine enter (N := 25) Try.func26 rfl rfl (by simp) fun a0 hN hd hA => ?_
 have s0 : a0.tmps.getD 0 undef = (ptr p 0) := hA 0 (by simp)
 have s1 : a0.tmps.getD 1 undef = (Value.int .i64 x) := hA 1 (by simp)
 clear hA
 refine seq_any fun K96 hK96 => ?_
 refine one_reg ?_
 refine op_assign rfl ?_
 refine reg_nil ?_
 refine hK96 _ _ ?_
 refine seq_any fun K97 hK97 => ?_
 refine seq_any fun K98 hK98 => ?_
 refine reg_split (hd := [_, _, _, _, _, _, _, _, _]) (tl := _) 9 mixed (by kernel_rfl) rfl rfl ?_
 refine any_quiet (Φ := phiL [(fun uz _ => uz = (ptr p 0)), (fun uz _ => uz = (Value.bool false)), (fun uz _ => uz = (Value.bool false)), (fun uz _ => uz = (ptr p 0)), (fun uz _ => uz = (Value.int .i64 (((H.length + B.length) : Nat) : Int))), (fun uz _ => uz = (ptr p 0)), (fun uz _ => uz = (ptr p 0)), (fun uz _ => uz = (ptr p 0)), (fun uz _ => uz = (Value.chan (some c)))]) (by kernel_rfl) (by kernel_rfl) (by kernel_rfl) hN (StL.get (StL.eq (StL.eq (StL.eq (StL.eq (StL.eq (StL.eq (StL.eq (StL.eq (StL.eq (StL.nil _))))))))))) (ObL.get (s := 9) (ObL.cons ?_ (ObL.cons ?_ (ObL.cons ?_ (ObL.cons ?_ (ObL.cons ?_ (ObL.cons ?_ (ObL.cons ?_ (ObL.cons ?_ (ObL.cons ?_ (ObL.nil)))))))))) rfl) ?_
 ·
  intro aA wA hNA hRA hbsA hdpA
  have qA_0 := (hbsA 0 rfl).trans (sl_base hN rfl s0)
  refine op_move (ev_base hNA rfl qA_0) ?_
  exact obN_end rfl rfl (grown_refl _ _)
 ·
  intro aA wA hNA hRA hbsA hdpA
  have qA_5 : Sl aA 5 (ptr p 0) := hdpA 0 _ 5 (by kernel_rfl) rfl rfl
  refine op_peq_some ptrt33 (ev_base hNA rfl qA_5) rfl ?_
  exact obN_end rfl rfl (grown_refl _ _)
 ·
  intro aA wA hNA hRA hbsA hdpA
  have qA_6 : Sl aA 6 (Value.bool false) := hdpA 1 _ 6 (by kernel_rfl) rfl rfl
  refine op_move (ev_base hNA rfl qA_6) ?_
  exact obN_end rfl rfl (grown_refl _ _)
 ·
  intro aA wA hNA hRA hbsA hdpA
  have qA_0 := (hbsA 0 rfl).trans (sl_base hN rfl s0)
  have qA_7 : Sl aA 7 (Value.bool false) := hdpA 2 _ 7 (by kernel_rfl) rfl rfl
  refine g_true (j := 2) (dj := 7) (b := false) rfl rfl rfl (ev_base hNA rfl qA_7) ?_
  refine op_move (ev_base hNA rfl qA_0) ?_
  exact obN_end rfl rfl (grown_refl _ _)
 ·
  intro aA wA hNA hRA hbsA hdpA
  have hRA : w.grownBy wA none := hRA
  have z_wA := hRA.size
  have hx := hx.keep0 hRA
  have O := O.keep0 hRA
  have hC := hC.keep0 hRA
  have hb := grow_step0 hb hRA
  have qA_8 : Sl aA 8 (ptr p 0) := hdpA 3 _ 8 (by kernel_rfl) rfl rfl
  have qA_7 : Sl aA 7 (Value.bool false) := hdpA 2 _ 7 (by kernel_rfl) rfl rfl
  clear hbsA hdpA
  refine g_true (j := 2) (dj := 7) (b := false) rfl rfl rfl (ev_base hNA rfl qA_7) ?_
  refine op_fn (vs := [(ptr p 0)]) ok27 ⟨(ev_base hNA rfl qA_8), trivial⟩ (Len_i H B hv _ _ _ _ _ (by omega) (by first | assumption | (simp; done) | (simp; omega) | omega) (by first | assumption | (simp; done) | (simp; omega) | omega) (by first | assumption | (simp; done) | (simp; omega) | omega) hx O hC) ?_
  rintro _ w99 ⟨E100, rfl⟩
  have E100 := grown_of_below E100
  have z_w99 := E100.size
  have hx := hx.keep0 E100
  have O := O.keep0 E100
  have hC := hC.keep0 E100
  have hb := grow_step0 hb E100
  exact obN_end rfl rfl (E100)
 ·
  intro aA wA hNA hRA hbsA hdpA
  have qA_0 := (hbsA 0 rfl).trans (sl_base hN rfl s0)
  have qA_7 : Sl aA 7 (Value.bool false) := hdpA 2 _ 7 (by kernel_rfl) rfl rfl
  refine g_true (j := 2) (dj := 7) (b := false) rfl rfl rfl (ev_base hNA rfl qA_7) ?_
  refine op_move (ev_base hNA rfl qA_0) ?_
  exact obN_end rfl rfl (grown_refl _ _)
 ·
  intro aA wA hNA hRA hbsA hdpA
  have qA_10 : Sl aA 10 (ptr p 0) := hdpA 5 _ 10 (by kernel_rfl) rfl rfl
  have qA_7 : Sl aA 7 (Value.bool false) := hdpA 2 _ 7 (by kernel_rfl) rfl rfl
  refine g_true (j := 2) (dj := 7) (b := false) rfl rfl rfl (ev_base hNA rfl qA_7) ?_
  refine op_nil (ev_base hNA rfl qA_10) ?_
  exact obN_end rfl rfl (grown_refl _ _)
 ·
  intro aA wA hNA hRA hbsA hdpA
  have qA_11 : Sl aA 11 (ptr p 0) := hdpA 6 _ 11 (by kernel_rfl) rfl rfl
  have qA_7 : Sl aA 7 (Value.bool false) := hdpA 2 _ 7 (by kernel_rfl) rfl rfl
  refine g_true (j := 2) (dj := 7) (b := false) rfl rfl rfl (ev_base hNA rfl qA_7) ?_
  refine op_field fld37_0 (ev_base hNA rfl qA_11) ?_
  exact obN_end rfl rfl (grown_refl _ _)
 ·
  intro aA wA hNA hRA hbsA hdpA
  have hRA : w.grownBy wA none := hRA
  have z_wA := hRA.size
  have hx := hx.keep0 hRA
  have O := O.keep0 hRA
  have hC := hC.keep0 hRA
  have hb := grow_step0 hb hRA
  have qA_12 : Sl aA 12 (ptr p 0) := hdpA 7 _ 12 (by kernel_rfl) rfl rfl
  have qA_7 : Sl aA 7 (Value.bool false) := hdpA 2 _ 7 (by kernel_rfl) rfl rfl
  clear hbsA hdpA
  refine g_true (j := 2) (dj := 7) (b := false) rfl rfl rfl (ev_base hNA rfl qA_7) ?_
  refine op_load1 (v := (Value.chan (some c))) one34 (ev_base hNA rfl qA_12) (hx.cell rfl) ?_
  exact obN_end rfl rfl (grown_refl _ _)
 ·
  intro a101 w101 hN101 hd101 hbs101 hph101 E101
  have hd101 := hd101.trans hd
  have s101_0 := (hbs101 0 rfl).trans (sl_base hN rfl s0)
  have s101_1 := (hbs101 1 rfl).trans (sl_base hN rfl s1)
  have s101_4 := (hbs101 4 rfl).trans (sl_hit hN rfl)
  have s101_7 : Sl a101 7 (Value.bool false) := hph101 2 _ 7 rfl rfl
  have s101_9 : Sl a101 9 (Value.int .i64 (((H.length + B.length) : Nat) : Int)) := hph101 4 _ 9 rfl rfl
  have s101_13 : Sl a101 13 (Value.chan (some c)) := hph101 8 _ 13 rfl rfl
  clear hbs101 hph101
  have E101 : w.grownBy w101 none := E101
  have z_w101 := E101.size
  have hx := hx.keep0 E101
  have O := O.keep0 E101
  have hC := hC.keep0 E101
  have hb := grow_step0 hb E101
  refine split_end ?_
  refine from_seq (tl := [_, _, _]) (by decide) (by kernel_rfl) rfl ?_
  refine g_true (j := 2) (dj := 7) (b := false) rfl rfl rfl (ev_base hN101 rfl s101_7) ?_
  refine op_cap_chan Try.underlying34 (ev_base hN101 rfl s101_13) hC ?_
  refine g_true (j := 2) (dj := 7) (b := false) rfl rfl rfl (ev_base hN101 rfl s101_7) ?_
  refine op_geq (ev_base hN101 rfl s101_9) (ev_hit hN101 rfl) (fun c15 => ?_) (fun c15 => ?_)
  · -- 15T
   refine op_pick_f (ev_base hN101 rfl s101_7) (ev_hit hN101 rfl) ?_
   refine reg_nil ?_
   refine hK98 _ _ ?_
   refine wp_cond_true (ev_hit hN101 rfl) ?_
   refine seq_any fun K102 hK102 => ?_
   refine one_reg ?_
   refine op_assign rfl ?_
   refine reg_nil ?_
   refine hK102 _ _ ?_
   refine wp_ret (then_ret ( ?_))
   refine ret1 rfl hd101 (ev_hit hN101 rfl) ⟨_, rfl, ?_⟩
   -- path 15T
   exact ⟨hb, congrArg Value.bool (by first | exact (decide_eq_true (by omega)).symm | exact (decide_eq_false (by omega)).symm), by (first | rw [if_pos (by omega)] | rw [if_neg (by omega)]); exact hC⟩
  · -- 15F
   refine op_pick_f (ev_base hN101 rfl s101_7) (ev_hit hN101 rfl) ?_
   refine reg_nil ?_
   refine hK98 _ _ ?_
   refine wp_cond_false (ev_hit hN101 rfl) ?_
   refine wp_skip ?_
   refine hK97 _ _ ?_
   refine seq_any fun K103 hK103 => ?_
   refine seq_any fun K104 hK104 => ?_
   refine one_reg ?_
   refine op_move (ev_base hN101 rfl s101_0) ?_
   refine op_nil (ev_hit hN101 rfl) ?_
   refine op_field fld37_0 (ev_hit hN101 rfl) ?_
   refine op_load1 (v := (Value.chan (some c))) one34 (ev_hit hN101 rfl) (hx.cell rfl) ?_
   refine reg_nil ?_
   refine hK104 _ _ ?_
   refine one_reg ?_
   refine op_move (ev_base hN101 rfl s101_1) ?_
   refine reg_nil ?_
   refine hK103 _ _ ?_
   refine seq_any fun K105 hK105 => ?_
   have hC_old := hC
   refine reg_send zero3 (ev_hit hN101 rfl) (ev_hit hN101 rfl) hC (fun w106 hr109 hC108 E107 => ?_) (fun hr109 => ?_)
   · -- 22T
    have hr109 : B.length < cap := by simpa using hr109
    have hC108 : ChC w106 c cap ((B ++ [x]).map (Value.int .i64)) := by simpa using hC108
    have z_w106 := E107.size
    have hx := hx.keepC hC_old E107
    have O := O.keepC hC_old E107
    have hb := grown_trans hb E107
    refine op_extract (ev_hit hN101 rfl) rfl ?_
    refine op_bin (v := .bool true) (ev_hit hN101 rfl) rfl (by rw [binOp_eql]; rfl) ?_
    refine reg_nil ?_
    refine hK105 _ _ ?_
    refine wp_block ?_
    refine wp_cond_true (ev_hit hN101 rfl) ?_
    refine seq_any fun K110 hK110 => ?_
    refine one_reg ?_
    refine op_assign rfl ?_
    refine reg_nil ?_
    refine hK110 _ _ ?_
    refine wp_ret (blk_ret ( ?_))
    refine ret1 rfl hd101 (ev_hit hN101 rfl) ⟨_, rfl, ?_⟩
    -- path 15F 22T
    exact ⟨hb, congrArg Value.bool (by first | exact (decide_eq_true (by omega)).symm | exact (decide_eq_false (by omega)).symm), by (first | rw [if_pos (by omega)] | rw [if_neg (by omega)]); exact hC108⟩
   · -- 22F
    have hr109 : cap ≤ B.length := by simpa using hr109
    exfalso; omega

theorem Head_i (H B : List Int) (hv : Value) (base p c cap : Nat) (w : World) (hbase : base ≤ w.heap.size) (hH : H.length ≤ 1) (hcap : H.length + B.length ≤ cap) (hcm : cap ≤ 1000) (hx : Bx w p 37 [.chan (some c), hv]) (O : Own w base 3 1 hv H.length (H.map (Value.int .i64))) (hC : ChC w c cap (B.map (Value.int .i64))) : Ret Try.prog 24 #[(ptr p 0)] w (fun v' w' => Gr2 w w' (some c) (some p) ∧ v' = .tuple #[(Value.int .i64 ((H ++ B).getD 0 0)), .bool (decide (0 < (H ++ B).length))] ∧ ∃ (hv' : Value) (H' B' : List Int), Bx w' p 37 [.chan (some c), hv'] ∧ Own w' base 3 1 hv' H'.length (H'.map (Value.int .i64)) ∧ ChC w' c cap (B'.map (Value.int .i64)) ∧ H' ++ B' = (H ++ B) ∧ H'.length ≤ 1 ∧ FrO hv hv' w.heap.size ∧ (0 < (H ++ B).length → 0 < H'.length)) := by
 have hi_p := hx.lt
 have hi_c := hC.lt
 have hb := Gr2.refl w (some c) (some p)
 refine enter (N := 35) Try.func24 rfl rfl (by simp) fun a0 hN hd hA => ?_
 have s0 : a0.tmps.getD 0 undef = (ptr p 0) := hA 0 (by simp)
 clear hA
 refine seq_any fun K111 hK111 => ?_
 refine one_reg ?_
 refine op_assign rfl ?_
 refine op_assign rfl ?_
 refine reg_nil ?_
 refine hK111 _ _ ?_
 refine seq_any fun K112 hK112 => ?_
 refine one_reg ?_
 refine op_assign rfl ?_
 refine reg_nil ?_
 refine hK112 _ _ ?_
 refine seq_any fun K113 hK113 => ?_
 refine seq_any fun K114 hK114 => ?_
 refine one_reg ?_
 refine op_move (ev_base hN rfl s0) ?_
 refine op_peq_some ptrt33 (ev_hit hN rfl) rfl ?_
 refine reg_nil ?_
 refine hK114 _ _ ?_
 refine wp_cond_false (ev_hit hN rfl) ?_
 refine wp_skip ?_
 refine hK113 _ _ ?_
 refine seq_any fun K115 hK115 => ?_
 refine seq_any fun K116 hK116 => ?_
 refine one_reg ?_
 refine op_move (ev_base hN rfl s0) ?_
 refine op_nil (ev_hit hN rfl) ?_
 refine op_field fld37_1 (ev_hit hN rfl) ?_
 refine op_load1 (v := hv) one35 (ev_hit hN rfl) (hx.cell rfl) ?_
 refine op_len_rd Try.underlying35 (ev_hit hN rfl) O.rdw ?_
 refine op_eql (ev_hit hN rfl) rfl (fun c14 => ?_) (fun c14 => ?_)
 · -- 14T
  refine reg_nil ?_
  refine hK116 _ _ ?_
  refine wp_cond_true (ev_hit hN rfl) ?_
  refine seq_any fun K117 hK117 => ?_
  refine one_reg ?_
  refine op_move (ev_base hN rfl s0) ?_
  refine op_nil (ev_hit hN rfl) ?_
  refine op_field fld37_0 (ev_hit hN rfl) ?_
  refine op_load1 (v := (Value.chan (some c))) one34 (ev_hit hN rfl) (hx.cell rfl) ?_
  refine reg_nil ?_
  refine hK117 _ _ ?_
  refine seq_any fun K118 hK118 => ?_
  have hC_old := hC
  refine reg_recv (f := (Value.int .i64)) zero3 (ev_hit hN rfl) hC (fun y122 M123 w119 hL124 hC121 E120 => ?_) (fun hL124 => ?_)
  · -- 19T
   have z_w119 := E120.size
   have hx := hx.keepC hC_old E120
   have O := O.keepC hC_old E120
   have hb := hb.stepA E120
   refine op_extract (ev_hit hN rfl) rfl ?_
   refine op_bin (v := .bool true) (ev_hit hN rfl) rfl (by rw [binOp_eql]; rfl) ?_
   refine reg_nil ?_
   refine hK118 _ _ ?_
   refine wp_block ?_
   refine wp_cond_true (ev_hit hN rfl) ?_
   refine seq_any fun K125 hK125 => ?_
   refine one_reg ?_
   refine op_extract (ev_hit hN rfl) rfl ?_
   refine op_assign (ev_hit hN rfl) ?_
   refine reg_nil ?_
   refine hK125 _ _ ?_
   refine one_reg ?_
   refine op_move (ev_base hN rfl s0) ?_
   refine op_move (ev_hit hN rfl) ?_
   refine op_bslice (e := 3) (pv := [(0, (Value.int .i64 y122))]) (cs := [(Value.int .i64 y122)]) ⟨rfl, (ev_hit hN rfl), trivial⟩ (by kernel_rfl) ?_
   intro w126 b127 lo_b127 hi_b127 hB129 E128
   have ne_b127_hv : hv.ownBlock ≠ some b127 := fun hh => by have := (O.lt _ hh).2; omega
   have z_w126 := E128.size
   have hx := hx.keep0 E128
   have O := O.keep0 E128
   have hC121 := hC121.keep0 E128
   have hb := hb.step0 E128
   refine op_nil (ev_hit hN rfl) ?_
   refine op_field fld37_1 (ev_hit hN rfl) ?_
   have hx_old := hx
   refine op_store (vs := [(Value.slice (some ⟨b127, 0, none⟩) 1 1)]) (cs' := [(Value.chan (some c)), (Value.slice (some ⟨b127, 0, none⟩) 1 1)]) size35 (ev_hit hN rfl) (ev_hit hN rfl) rfl rfl rfl hx (Nat.le_of_ble_eq_true rfl) rfl ?_
   intro w132 hx E133
   have z_w132 := E133.size
   have O := O.keepX hx_old E133 (by decide)
   have hC121 := hC121.keepB hx_old E133
   have hB129 := hB129.keep E133 (by simp; omega)
   have hb := hb.stepB E133
   refine reg_nil ?_
   refine hK115 _ _ ?_
   refine seq_any fun K134 hK134 => ?_
   refine one_reg ?_
   refine op_move (ev_base hN rfl s0) ?_
   refine op_nil (ev_hit hN rfl) ?_
   refine op_field fld37_1 (ev_hit hN rfl) ?_
   refine op_load1 (v := (Value.slice (some ⟨b127, 0, none⟩) 1 1)) one35 (ev_hit hN rfl) (hx.cell rfl) ?_
   refine op_index_rd slt35 (ev_hit hN rfl) (RdC.ofBx (sz := 1) (n := 1) hB129 rfl (by decide)) rfl (by omega) (by omega) ?_
   intro b135 o136 h0b135 h1b135 hc137
   refine op_load1 (v := (Value.int .i64 y122)) one3 (ev_hit hN rfl) (by have := hc137 0 (Value.int .i64 y122) (by decide) rfl; simpa using this) ?_
   refine op_assign (ev_hit hN rfl) ?_
   refine op_assign rfl ?_
   refine reg_nil ?_
   refine hK134 _ _ ?_
   refine wp_ret ?_
   refine ret2 rfl hd (ev_hit hN rfl) (ev_hit hN rfl) ⟨_, rfl, ?_⟩
   -- path 14T 19T
   obtain rfl := List.length_eq_zero_iff.1 (show H.length = 0 by omega)
   subst hL124
   exact ⟨hb, rfl, _, [y122], M123, hx, (Own.ofBx (sz := 1) (n := 1) hB129 rfl (by decide) (by omega)).cast rfl rfl, hC121, rfl, Nat.le_refl _, FrO.new _ _ (fun k hk => by simp [Value.ownBlock] at hk; omega), fun _ => by simp⟩
  · -- 19F
   refine op_extract (ev_hit hN rfl) rfl ?_
   refine op_bin (v := .bool false) (ev_hit hN rfl) rfl (by rw [binOp_eql]; rfl) ?_
   refine reg_nil ?_
   refine hK118 _ _ ?_
   refine wp_block ?_
   refine wp_cond_false (ev_hit hN rfl) ?_
   refine seq_any fun K138 hK138 => ?_
   refine one_reg ?_
   refine op_move (ev_hit hN rfl) ?_
   refine op_assign (ev_hit hN rfl) ?_
   refine op_assign rfl ?_
   refine reg_nil ?_
   refine hK138 _ _ ?_
   refine wp_ret (blk_ret (then_ret ( ?_)))
   refine ret2 rfl hd (ev_hit hN rfl) (ev_hit hN rfl) ⟨_, rfl, ?_⟩
   -- path 14T 19F
   obtain rfl := List.length_eq_zero_iff.1 (show H.length = 0 by omega)
   subst hL124
   exact ⟨hb, rfl, hv, [], [], hx, O, hC, rfl, by simp, FrO.refl _ _, by simp⟩
 · -- 14F
  refine reg_nil ?_
  refine hK116 _ _ ?_
  refine wp_cond_false (ev_hit hN rfl) ?_
  refine wp_skip ?_
  refine hK115 _ _ ?_
  refine seq_any fun K139 hK139 => ?_
  refine one_reg ?_
  refine op_move (ev_base hN rfl s0) ?_
  refine op_nil (ev_hit hN rfl) ?_
  refine op_field fld37_1 (ev_hit hN rfl) ?_
  refine op_load1 (v := hv) one35 (ev_hit hN rfl) (hx.cell rfl) ?_
  refine op_index_rd slt35 (ev_hit hN rfl) O.rdw rfl (by omega) (by omega) ?_
  intro b140 o141 h0b140 h1b140 hc142
  refine op_load1 (v := (Value.int .i64 (H.getD 0 0))) one3 (ev_hit hN rfl) (by have := hc142 0 (Value.int .i64 (H.getD 0 0)) (by decide) (el_i64 (i := 0) (by omega) (by omega)); simpa using this) ?_
  refine op_assign (ev_hit hN rfl) ?_
  refine op_assign rfl ?_
  refine reg_nil ?_
  refine hK139 _ _ ?_
  refine wp_ret ?_
  refine ret2 rfl hd (ev_hit hN rfl) (ev_hit hN rfl) ⟨_, rfl, ?_⟩
  -- path 14F
  exact ⟨hb, by rw [← getD_front (by omega)]; rw [decide_eq_true (by simp; omega)]; first | done | rfl, hv, H, B, hx, O, hC, rfl, hH, FrO.refl _ _, fun _ => by omega⟩

theorem Take_i (H B : List Int) (hv : Value) (base p c cap : Nat) (w : World) (hbase : base ≤ w.heap.size) (hH : H.length ≤ 1) (hcap : H.length + B.length ≤ cap) (hcm : cap ≤ 1000) (hx : Bx w p 37 [.chan (some c), hv]) (O : Own w base 3 1 hv H.length (H.map (Value.int .i64))) (hC : ChC w c cap (B.map (Value.int .i64))) : Ret Try.prog 25 #[(ptr p 0)] w (fun v' w' => Gr2 w w' (some c) (some p) ∧ v' = .tuple #[(Value.int .i64 ((H ++ B).getD 0 0)), .bool (decide (0 < (H ++ B).length))] ∧ ∃ (hv' : Value) (H' B' : List Int), Bx w' p 37 [.chan (some c), hv'] ∧ Own w' base 3 1 hv' H'.length (H'.map (Value.int .i64)) ∧ ChC w' c cap (B'.map (Value.int .i64)) ∧ H' ++ B' = ((H ++ B).drop 1) ∧ H'.length ≤ 1 ∧ FrO hv hv' w.heap.size ∧ (True)) := by
 have hi_p := hx.lt
 have hi_c := hC.lt
 have hb := Gr2.refl w (some c) (some p)
 refine enter (N := 17) Try.func25 rfl rfl (by simp) fun a0 hN hd hA => ?_
 have s0 : a0.tmps.getD 0 undef = (ptr p 0) := hA 0 (by simp)
 clear hA
 refine seq_any fun K143 hK143 => ?_
 refine one_reg ?_
 refine op_assign rfl ?_
 refine op_assign rfl ?_
 refine reg_nil ?_
 refine hK143 _ _ ?_
 refine seq_any fun K144 hK144 => ?_
 refine one_reg ?_
 refine op_move (ev_base hN rfl s0) ?_
 refine op_fn (vs := [(ptr p 0)]) ok24 ⟨(ev_hit hN rfl), trivial⟩ (Head_i H B hv _ _ _ _ _ (by omega) (by first | assumption | (simp; done) | (simp; omega) | omega) (by first | assumption | (simp; done) | (simp; omega) | omega) (by first | assumption | (simp; done) | (simp; omega) | omega) hx O hC) ?_
 rintro _ w146 ⟨E147, rfl, hv145, H145, B145, hx145, hO145, hC145, he145, hl145, hm145, hn145⟩
 obtain ⟨w148, E149, E150⟩ := E147.split
 have hC_old := hC
 have hx_old := hx.keepC hC_old E149
 have z_w148 := E149.size
 have hb := hb.stepA E149
 have z_w146 := E150.size
 have hb := hb.stepB E150
 have hq_145 := congrArg List.length he145
 simp only [List.length_append, List.length_drop] at hq_145
 refine op_move (ev_hit hN rfl) ?_
 refine op_extract (ev_hit hN rfl) rfl ?_
 refine op_extract (ev_hit hN rfl) rfl ?_
 refine op_assign (ev_hit hN rfl) ?_
 refine op_assign (ev_hit hN rfl) ?_
 refine reg_nil ?_
 refine hK144 _ _ ?_
 refine seq_any fun K151 hK151 => ?_
 refine seq_any fun K152 hK152 => ?_
 refine one_reg ?_
 refine op_move (ev_hit hN rfl) ?_
 refine reg_nil ?_
 refine hK152 _ _ ?_
 refine wp_cond_split (ev_hit hN rfl) (fun c11 => ?_) (fun c11 => ?_)
 · -- 11T
  have c11 := of_decide_eq_true c11
  refine one_reg ?_
  refine op_move (ev_base hN rfl s0) ?_
  refine op_nil (ev_hit hN rfl) ?_
  refine op_field fld37_1 (ev_hit hN rfl) ?_
  have hx145_old := hx145
  refine op_store (vs := [(Value.slice none 0 0)]) (cs' := [(Value.chan (some c)), (Value.slice none 0 0)]) size35 (ev_hit hN rfl) rfl rfl rfl rfl hx145 (Nat.le_of_ble_eq_true rfl) rfl ?_
  intro w155 hx145 E156
  have z_w155 := E156.size
  have hO145 := hO145.keepX hx145_old E156 (by decide)
  have hC145 := hC145.keepB hx145_old E156
  have hb := hb.stepB E156
  refine reg_nil ?_
  refine hK151 _ _ ?_
  refine seq_any fun K157 hK157 => ?_
  refine one_reg ?_
  refine op_move (ev_hit hN rfl) ?_
  refine op_move (ev_hit hN rfl) ?_
  refine op_assign (ev_hit hN rfl) ?_
  refine op_assign (ev_hit hN rfl) ?_
  refine reg_nil ?_
  refine hK157 _ _ ?_
  refine wp_ret ?_
  refine ret2 rfl hd (ev_hit hN rfl) (ev_hit hN rfl) ⟨_, rfl, ?_⟩
  -- path 11T
  exact ⟨hb, rfl, _, [], B145, hx145, Own.nil _ _ _ _, hC145, (take0 hl145 (hn145 c11) _).trans (by rw [he145]), by simp, FrO.nil _ _, by simp⟩
 · -- 11F
  have c11 := of_decide_eq_false c11
  refine wp_skip ?_
  refine hK151 _ _ ?_
  refine seq_any fun K158 hK158 => ?_
  refine one_reg ?_
  refine op_move (ev_hit hN rfl) ?_
  refine op_move (ev_hit hN rfl) ?_
  refine op_assign (ev_hit hN rfl) ?_
  refine op_assign (ev_hit hN rfl) ?_
  refine reg_nil ?_
  refine hK158 _ _ ?_
  refine wp_ret ?_
  refine ret2 rfl hd (ev_hit hN rfl) (ev_hit hN rfl) ⟨_, rfl, ?_⟩
  -- path 11F
  have hz : H ++ B = [] := List.length_eq_zero_iff.1 (by omega)
  exact ⟨hb, rfl, hv145, H145, B145, hx145, hO145, hC145, by rw [he145, hz]; rfl, hl145, hm145, by simp⟩

end Go.Proofs.Ytmhdbphpmgjpcaa

/- Walks, written by a program: what each function of the translation hands back. -/
namespace Go.Proofs.Ytmhdbphpmgjpcaa
open Go.Gx Go.RowKit
attribute [local irreducible] wpList wpStill Code.wp Calls

theorem Clone_s (l : List (List UInt8)) (v : Value) (w : World) (hz : l.length ≤ 1000000000000) (hl : RdC w 0 w.heap.size 1 v l.length (l.map sv)) : Ret Try.prog 72 #[v] w (fun v' w' => Below w.heap.size w w' ∧ Own w' w.heap.size 9 1 v' l.length (l.map sv)) := by
 have hb := Below.refl w.heap.size w
 refine enter (N := 8) Try.func72 rfl rfl (by simp) fun a0 hN hd hA => ?_
 have s0 : a0.tmps.getD 0 undef = v := hA 0 (by simp)
 clear hA
 refine seq_any fun K1 hK1 => ?_
 refine one_reg ?_
 refine op_assign rfl ?_
 refine reg_nil ?_
 refine hK1 _ _ ?_
 refine seq_any fun K2 hK2 => ?_
 refine seq_any fun K3 hK3 => ?_
 refine one_reg ?_
 refine op_move (ev_base hN rfl s0) ?_
 refine op_eql_nil slt26 (ev_hit hN rfl) rfl hl (fun c4 => ?_) ?_
 · -- 4T
  refine reg_nil ?_
  refine hK3 _ _ ?_
  refine wp_cond_true (ev_hit hN rfl) ?_
  refine seq_any fun K4 hK4 => ?_
  refine one_reg ?_
  refine op_assign rfl ?_
  refine reg_nil ?_
  refine hK4 _ _ ?_
  refine wp_ret (then_ret ( ?_))
  refine ret1 rfl hd (ev_hit hN rfl) ⟨_, rfl, ?_⟩
  -- path 4T
  exact ⟨hb, by rw [List.length_eq_zero_iff.1 c4]; exact Own.nil _ _ _ _⟩
 · -- 4F
  refine reg_nil ?_
  refine hK3 _ _ ?_
  refine wp_cond_false (ev_hit hN rfl) ?_
  refine wp_skip ?_
  refine hK2 _ _ ?_
  refine seq_any fun K5 hK5 => ?_
  refine one_reg ?_
  refine op_bslice (e := 9) (pv := []) (cs := []) trivial (by kernel_rfl) ?_
  intro w6 b7 lo_b7 hi_b7 hB9 E8
  have z_w6 := E8.size
  have hl := hl.keep0 E8
  have hb := below_step0 hb E8 hb.size
  refine op_move (ev_base hN rfl s0) ?_
  have hP15 := (Own.ofBx (base := w.heap.size) (sz := 1) (n := 0) hB9 rfl (by decide) (by omega))
  refine op_append slt26 (ev_hit hN rfl) hP15 (ev_hit hN rfl) (Src.ofRd Try.underlying26 (by decide) hl (one_sv _)) (by unfold maxLen; omega) (by omega) hb.size ?_
  intro v10 w11 hO13 E12 hm14
  have z_w11 := E12.size
  have hl := hl.keepO hP15 E12 (by omega)
  have hb := below_stepO hb hP15 E12 hb.size (by omega)
  have hO13 : Own w11 w.heap.size 9 1 v10 (0 + l.length) ((l).map sv) := by simpa [u8v, u16v, sv] using hO13
  refine op_assign (ev_hit hN rfl) ?_
  refine reg_nil ?_
  refine hK5 _ _ ?_
  refine wp_ret ?_
  refine ret1 rfl hd (ev_hit hN rfl) ⟨_, rfl, ?_⟩
  -- path 4F
  exact ⟨hb, hO13.cast (by simp) (by simp)⟩

theorem Clone_i (l : List Int) (v : Value) (w : World) (hz : l.length ≤ 1000000000000) (hl : RdC w 0 w.heap.size 1 v l.length (l.map (Value.int .i64))) : Ret Try.prog 73 #[v] w (fun v' w' => Below w.heap.size w w' ∧ Own w' w.heap.size 3 1 v' l.length (l.map (Value.int .i64))) := by
 have hb := Below.refl w.heap.size w
 refine enter (N := 8) Try.func73 rfl rfl (by simp) fun a0 hN hd hA => ?_
 have s0 : a0.tmps.getD 0 undef = v := hA 0 (by simp)
 clear hA
 refine seq_any fun K16 hK16 => ?_
 refine one_reg ?_
 refine op_assign rfl ?_
 refine reg_nil ?_
 refine hK16 _ _ ?_
 refine seq_any fun K17 hK17 => ?_
 refine seq_any fun K18 hK18 => ?_
 refine one_reg ?_
 refine op_move (ev_base hN rfl s0) ?_
 refine op_eql_nil slt35 (ev_hit hN rfl) rfl hl (fun c4 => ?_) ?_
 · -- 4T
  refine reg_nil ?_
  refine hK18 _ _ ?_
  refine wp_cond_true (ev_hit hN rfl) ?_
  refine seq_any fun K19 hK19 => ?_
  refine one_reg ?_
  refine op_assign rfl ?_
  refine reg_nil ?_
  refine hK19 _ _ ?_
  refine wp_ret (then_ret ( ?_))
  refine ret1 rfl hd (ev_hit hN rfl) ⟨_, rfl, ?_⟩
  -- path 4T
  exact ⟨hb, by rw [List.length_eq_zero_iff.1 c4]; exact Own.nil _ _ _ _⟩
 · -- 4F
  refine reg_nil ?_
  refine hK18 _ _ ?_
  refine wp_cond_false (ev_hit hN rfl) ?_
  refine wp_skip ?_
  refine hK17 _ _ ?_
  refine seq_any fun K20 hK20 => ?_
  refine one_reg ?_
  refine op_bslice (e := 3) (pv := []) (cs := []) trivial (by kernel_rfl) ?_
  intro w21 b22 lo_b22 hi_b22 hB24 E23
  have z_w21 := E23.size
  have hl := hl.keep0 E23
  have hb := below_step0 hb E23 hb.size
  refine op_move (ev_base hN rfl s0) ?_
  have hP30 := (Own.ofBx (base := w.heap.size) (sz := 1) (n := 0) hB24 rfl (by decide) (by omega))
  refine op_append slt35 (ev_hit hN rfl) hP30 (ev_hit hN rfl) (Src.ofRd Try.underlying35 (by decide) hl (one_i64 _)) (by unfold maxLen; omega) (by omega) hb.size ?_
  intro v25 w26 hO28 E27 hm29
  have z_w26 := E27.size
  have hl := hl.keepO hP30 E27 (by omega)
  have hb := below_stepO hb hP30 E27 hb.size (by omega)
  have hO28 : Own w26 w.heap.size 3 1 v25 (0 + l.length) ((l).map (Value.int .i64)) := by simpa [u8v, u16v, sv] using hO28
  refine op_assign (ev_hit hN rfl) ?_
  refine reg_nil ?_
  refine hK20 _ _ ?_
  refine wp_ret ?_
  refine ret1 rfl hd (ev_hit hN rfl) ⟨_, rfl, ?_⟩
  -- path 4F
  exact ⟨hb, hO28.cast (by simp) (by simp)⟩

theorem All_s (H B : List (List UInt8)) (hv : Value) (base p c cap : Nat) (w : World) (hbase : base ≤ w.heap.size) (hH : H.length ≤ 1) (hcap : H.length + B.length ≤ cap) (hcm : cap ≤ 1000) (hx : Bx w p 126 [.chan (some c), hv]) (O : Own w base 9 1 hv H.length (H.map sv)) (hC : ChC w c cap (B.map sv)) : Ret Try.prog 22 #[(ptr p 0)] w (fun v' w' => w.grownBy w' (some c) ∧ Own w' w.heap.size 9 1 v' (H ++ B).length ((H ++ B).map sv) ∧ ChC w' c cap (B.map sv)) := by
 have hi_p := hx.lt
 have hi_c := hC.lt
 have hb := grown_refl w (some c)
 refine enter (N := 38) Try.func22 rfl rfl (by simp) fun a0 hN hd hA => ?_
 have s0 : a0.tmps.getD 0 undef = (ptr p 0) := hA 0 (by simp)
 clear hA
 refine seq_any fun K31 hK31 => ?_
 refine one_reg ?_
 refine op_assign rfl ?_
 refine reg_nil ?_
 refine hK31 _ _ ?_
 refine seq_any fun K32 hK32 => ?_
 refine seq_any fun K33 hK33 => ?_
 refine one_reg ?_
 refine op_move (ev_base hN rfl s0) ?_
 refine op_peq_some ptrt24 (ev_hit hN rfl) rfl ?_
 refine reg_nil ?_
 refine hK33 _ _ ?_
 refine wp_cond_false (ev_hit hN rfl) ?_
 refine wp_skip ?_
 refine hK32 _ _ ?_
 refine seq_any fun K34 hK34 => ?_
 refine one_reg ?_
 refine op_move (ev_base hN rfl s0) ?_
 refine op_nil (ev_hit hN rfl) ?_
 refine op_field fld126_1 (ev_hit hN rfl) ?_
 refine op_load1 (v := hv) one26 (ev_hit hN rfl) (hx.cell rfl) ?_
 refine op_fn (vs := [hv]) ok72 ⟨(ev_hit hN rfl), trivial⟩ (Clone_s H _ _ (by omega) (O.rdw.mono (Nat.zero_le _) (by omega))) ?_
 rintro v35 w36 ⟨E37, hO35⟩
 have dj38 : DJ v35 hv := fun k hk hg => by have q1 := (hO35.lt k hk).1; have q2 := (O.lt k hg).2; omega
 have E37 := grown_of_below E37
 have z_w36 := E37.size
 have hx := hx.keep0 E37
 have O := O.keep0 E37
 have hC := hC.keep0 E37
 have hb := grow_step0 hb E37
 have hO35 := hO35.mono (base' := w.heap.size) (by omega)
 refine op_assign (ev_hit hN rfl) ?_
 refine reg_nil ?_
 refine hK34 _ _ ?_
 refine seq_any fun K39 hK39 => ?_
 refine seq_any fun K40 hK40 => ?_
 refine one_reg ?_
 refine op_move (ev_base hN rfl s0) ?_
 refine op_nil (ev_hit hN rfl) ?_
 refine op_field fld126_0 (ev_hit hN rfl) ?_
 refine op_load1 (v := (Value.chan (some c))) one124 (ev_hit hN rfl) (hx.cell rfl) ?_
 refine op_len_chanL Try.underlying124 (ev_hit hN rfl) hC ?_
 refine op_move rfl ?_
 refine reg_nil ?_
 refine hK40 _ _ ?_
 refine wp_block ?_
 refine loop_m (fun mz_ az_ w' => ∃ (i : Nat) (lv : Value), mz_ = B.length - i ∧ (az_.tmps.getD 0 undef = (ptr p 0)) ∧ (az_.tmps.getD 2 undef = (Value.slice none 0 0)) ∧ (az_.tmps.getD 16 undef = (Value.int .i64 ((B.length : Nat) : Int))) ∧ (az_.tmps.getD 17 undef = (Value.int .i64 ((i : Nat) : Int))) ∧ (az_.tmps.getD 3 undef = lv) ∧ (i ≤ B.length) ∧ (DJ hv lv) ∧ (w.grownBy w' (some c)) ∧ (w36.heap.size ≤ w'.heap.size) ∧ (Bx w' p 126 [(Value.chan (some c)), hv]) ∧ (Own w' base 9 1 hv H.length (H.map sv)) ∧ (ChC w' c cap ((B.drop i ++ B.take i).map sv)) ∧ (Own w' w.heap.size 9 1 lv (H.length + i) ((H ++ B.take i).map sv))) _ hN hd ⟨0, v35, rfl, (sl_base hN rfl s0), (sl_hit hN rfl), (sl_hit hN rfl), (sl_hit hN rfl), (sl_hit hN rfl), (by omega), dj38.symm, hb, (Nat.le_refl _), hx, O, (by simpa using hC), (hO35.cast (by simp) (by simp))⟩ ?_
 rintro _ a41 w41 hN41 hd41 ⟨i, lv, rfl, s41_0, s41_2, s41_16, s41_17, s41_3, hi, hdj, hb, zl_w41, hx, O, hC, hO42⟩
 have z_w41 := hb.size
 refine seq_any fun K43 hK43 => ?_
 refine one_reg ?_
 refine op_lss (ev_base hN41 rfl s41_17) (ev_base hN41 rfl s41_16) (fun c18 => ?_) (fun c18 => ?_)
 · -- 18T
  refine reg_nil ?_
  refine hK43 _ _ ?_
  refine seq_any fun K44 hK44 => ?_
  refine wp_cond_true (ev_hit hN41 rfl) ?_
  refine wp_skip ?_
  refine hK44 _ _ ?_
  refine seq_any fun K45 hK45 => ?_
  refine wp_block ?_
  refine seq_any fun K46 hK46 => ?_
  refine one_reg ?_
  refine op_move (ev_base hN41 rfl s41_0) ?_
  refine op_nil (ev_hit hN41 rfl) ?_
  refine op_field fld126_0 (ev_hit hN41 rfl) ?_
  refine op_load1 (v := (Value.chan (some c))) one124 (ev_hit hN41 rfl) (hx.cell rfl) ?_
  refine reg_nil ?_
  refine hK46 _ _ ?_
  refine seq_any fun K47 hK47 => ?_
  have hC_old := hC
  refine reg_recv (f := sv) zero9 (ev_hit hN41 rfl) hC (fun y51 M52 w48 hL53 hC50 E49 => ?_) (fun hL53 => ?_)
  · -- 23T
   have z_w48 := E49.size
   have hx := hx.keepC hC_old E49
   have O := O.keepC hC_old E49
   have hO42 := hO42.keepC hC_old E49
   have hb := grown_trans hb E49
   refine op_extract (ev_hit hN41 rfl) rfl ?_
   refine op_bin (v := .bool true) (ev_hit hN41 rfl) rfl (by rw [binOp_eql]; rfl) ?_
   refine reg_nil ?_
   refine hK47 _ _ ?_
   refine wp_block ?_
   refine wp_cond_true (ev_hit hN41 rfl) ?_
   refine seq_any fun K54 hK54 => ?_
   refine one_reg ?_
   refine op_extract (ev_hit hN41 rfl) rfl ?_
   refine op_assign (ev_hit hN41 rfl) ?_
   refine reg_nil ?_
   refine hK54 _ _ ?_
   refine seq_any fun K55 hK55 => ?_
   refine one_reg ?_
   refine op_move (ev_base hN41 rfl s41_3) ?_
   refine op_move (ev_hit hN41 rfl) ?_
   refine op_bslice (e := 9) (pv := [(0, (Value.string (bs y51)))]) (cs := [(Value.string (bs y51))]) ⟨rfl, (ev_hit hN41 rfl), trivial⟩ (by kernel_rfl) ?_
   intro w56 b57 lo_b57 hi_b57 hB59 E58
   have ne_b57_hv : hv.ownBlock ≠ some b57 := fun hh => by have := (O.lt _ hh).2; omega
   have ne_b57_lv : lv.ownBlock ≠ some b57 := fun hh => by have := (hO42.lt _ hh).2; omega
   have z_w56 := E58.size
   have hx := hx.keep0 E58
   have O := O.keep0 E58
   have hO42 := hO42.keep0 E58
   have hC50 := hC50.keep0 E58
   have hb := grow_step0 hb E58
   have hP65 := hO42
   refine op_append slt26 (ev_hit hN41 rfl) hP65 (ev_hit hN41 rfl) (Src.ofRd Try.underlying26 (by decide) (RdC.ofBx (sz := 1) (n := 1) hB59 rfl (by decide)) (by simp [Value.oneCell', u8v])) (by unfold maxLen; omega) (by omega) hb.size ?_
   intro v60 w61 hO63 E62 hm64
   have dj66 : DJ hv v60 := DJ.step hm64 (fun k hk => (O.lt k hk).2) hdj
   have z_w61 := E62.size
   have hx := hx.keepO hP65 E62 (by decide)
   have O := O.keepD E62 hdj
   have hC50 := hC50.keepO hP65 E62
   have hB59 := hB59.keep E62 (fun hh => ne_b57_lv hh.symm)
   have hb := grow_stepO hb hP65 E62 (by omega)
   have hO63 : Own w61 w.heap.size 9 1 v60 ((H.length + i) + 1) ((((H ++ B.take i) ++ [y51])).map sv) := by simpa [u8v, u16v, sv] using hO63
   have ne_b57_v60 : v60.ownBlock ≠ some b57 := ne_step (w1 := w56) ⟨E62, hm64⟩ (by omega) ne_b57_lv
   refine op_assign (ev_hit hN41 rfl) ?_
   refine reg_nil ?_
   refine hK55 _ _ ?_
   refine reg_last (pre := [_, _, _, _, _]) ?_
   refine op_move (ev_base hN41 rfl s41_0) ?_
   refine op_nil (ev_hit hN41 rfl) ?_
   refine op_field fld126_0 (ev_hit hN41 rfl) ?_
   refine op_load1 (v := (Value.chan (some c))) one124 (ev_hit hN41 rfl) (hx.cell rfl) ?_
   refine op_move (ev_hit hN41 rfl) ?_
   refine reg_nil ?_
   have hC50_old := hC50
   refine last_send (i := 5) rfl (ev_hit hN41 rfl) (ev_hit hN41 rfl) hC50 (by have := congrArg List.length hL53; simp at this ⊢; omega) ?_
   intro w67 hC69 E68
   have hC69 : ChC w67 c cap ((M52 ++ [y51]).map sv) := by simpa [sv] using hC69
   have z_w67 := E68.size
   have hx := hx.keepC hC50_old E68
   have O := O.keepC hC50_old E68
   have hB59 := hB59.keepC hC50_old E68
   have hO63 := hO63.keepC hC50_old E68
   have hb := grown_trans hb E68
   refine hK45 _ _ ?_
   refine one_reg ?_
   refine op_add (ev_base hN41 rfl s41_17) rfl (add64 (by omega)) ?_
   refine op_move (ev_hit hN41 rfl) ?_
   refine reg_nil ?_
   -- round 18T 23T
   have hro := rot_go (by omega) hL53
   exact loop_next _ hN41 hd41 ⟨(i + 1), v60, rfl, (sl_base hN41 rfl s41_0), (sl_base hN41 rfl s41_2), (sl_base hN41 rfl s41_16), (sl_hit hN41 rfl).trans (congrArg (Value.int .i64) (by omega)), (sl_hit hN41 rfl), (by omega), dj66, hb, (by omega), hx, O, (by rw [← hro.1]; exact hC69), (hO63.cast (by omega) (by rw [← hro.2, ← List.append_assoc]))⟩ (by omega)
  · -- 23F
   exfalso; have := congrArg List.length hL53; simp at this; omega
 · -- 18F
  refine reg_nil ?_
  refine hK43 _ _ ?_
  refine seq_any fun K70 hK70 => ?_
  refine wp_cond_false (ev_hit hN41 rfl) ?_
  refine wp_exit (then_exit (then_exit (blk_hit ?_)))
  refine hK39 _ _ ?_
  refine seq_any fun K71 hK71 => ?_
  refine one_reg ?_
  refine op_move (ev_base hN41 rfl s41_3) ?_
  refine op_assign (ev_hit hN41 rfl) ?_
  refine reg_nil ?_
  refine hK71 _ _ ?_
  refine wp_ret ?_
  refine ret1 rfl hd41 (ev_hit hN41 rfl) ⟨_, rfl, ?_⟩
  -- path 18F
  have hi9 : i = B.length := by omega
  subst hi9
  exact ⟨hb, hO42.cast (by simp) (by simp), by simpa using hC⟩

theorem Len0_s (w : World) : Ret Try.prog 23 #[(Value.pointer none)] w (fun v' w' => Below w.heap.size w w' ∧ v' = .int .i64 0) := by
 have hb := Below.refl w.heap.size w
 refine enter (N := 16) Try.func23 rfl rfl (by simp) fun a0 hN hd hA => ?_
 have s0 : a0.tmps.getD 0 undef = (Value.pointer none) := hA 0 (by simp)
 clear hA
 refine seq_any fun K72 hK72 => ?_
 refine one_reg ?_
 refine op_assign rfl ?_
 refine reg_nil ?_
 refine hK72 _ _ ?_
 refine seq_any fun K73 hK73 => ?_
 refine seq_any fun K74 hK74 => ?_
 refine one_reg ?_
 refine op_move (ev_base hN rfl s0) ?_
 refine op_peq_none ptrt24 (ev_hit hN rfl) rfl ?_
 refine reg_nil ?_
 refine hK74 _ _ ?_
 refine wp_cond_true (ev_hit hN rfl) ?_
 refine seq_any fun K75 hK75 => ?_
 refine one_reg ?_
 refine op_assign rfl ?_
 refine reg_nil ?_
 refine hK75 _ _ ?_
 refine wp_ret (then_ret ( ?_))
 refine ret1 rfl hd (ev_hit hN rfl) ⟨_, rfl, ?_⟩
 -- path
 exact ⟨hb, rfl⟩

theorem Put0_s (x : List UInt8) (w : World) : Ret Try.prog 18 #[(Value.pointer none), (Value.string (bs x))] w (fun v' w' => Below w.heap.size w w' ∧ v' = .bool false) := by
 have hb := Below.refl w.heap.size w
 refine enter (N := 25) Try.func18 rfl rfl (by simp) fun a0 hN hd hA => ?_
 have s0 : a0.tmps.getD 0 undef = (Value.pointer none) := hA 0 (by simp)
 have s1 : a0.tmps.getD 1 undef = (Value.string (bs x)) := hA 1 (by simp)
 clear hA
 refine seq_any fun K76 hK76 => ?_
 refine one_reg ?_
 refine op_assign rfl ?_
 refine reg_nil ?_
 refine hK76 _ _ ?_
 refine seq_any fun K77 hK77 => ?_
 refine seq_any fun K78 hK78 => ?_
 refine reg_split (hd := [_, _, _, _, _, _, _, _, _]) (tl := _) 9 mixed (by kernel_rfl) rfl rfl ?_
 refine any_quiet (Φ := phiL [(fun uz _ => uz = (Value.pointer none)), (fun uz _ => uz = (Value.bool true)), (fun uz _ => uz = (Value.bool true)), (fun uz _ => uz = undef), (fun uz _ => uz = undef), (fun uz _ => uz = undef), (fun uz _ => uz = undef), (fun uz _ => uz = undef), (fun uz _ => uz = undef)]) (by kernel_rfl) (by kernel_rfl) (by kernel_rfl) hN (StL.get (StL.eq (StL.eq (StL.eq (StL.eq (StL.eq (StL.eq (StL.eq (StL.eq (StL.eq (StL.nil _))))))))))) (ObL.get (s := 9) (ObL.cons ?_ (ObL.cons ?_ (ObL.cons ?_ (ObL.cons ?_ (ObL.cons ?_ (ObL.cons ?_ (ObL.cons ?_ (ObL.cons ?_ (ObL.cons ?_ (ObL.nil)))))))))) rfl) ?_
 ·
  intro aA wA hNA hRA hbsA hdpA
  have qA_0 := (hbsA 0 rfl).trans (sl_base hN rfl s0)
  refine op_move (ev_base hNA rfl qA_0) ?_
  exact obN_end rfl rfl (grown_refl _ _)
 ·
  intro aA wA hNA hRA hbsA hdpA
  have qA_5 : Sl aA 5 (Value.pointer none) := hdpA 0 _ 5 (by kernel_rfl) rfl rfl
  refine op_peq_none ptrt24 (ev_base hNA rfl qA_5) rfl ?_
  exact obN_end rfl rfl (grown_refl _ _)
 ·
  intro aA wA hNA hRA hbsA hdpA
  have qA_6 : Sl aA 6 (Value.bool true) := hdpA 1 _ 6 (by kernel_rfl) rfl rfl
  refine op_move (ev_base hNA rfl qA_6) ?_
  exact obN_end rfl rfl (grown_refl _ _)
 ·
  intro aA wA hNA hRA hbsA hdpA
  have qA_0 := (hbsA 0 rfl).trans (sl_base hN rfl s0)
  have qA_7 : Sl aA 7 (Value.bool true) := hdpA 2 _ 7 (by kernel_rfl) rfl rfl
  refine g_false (j := 2) (dj := 7) (b := false) rfl rfl rfl (ev_base hNA rfl qA_7) rfl rfl ?_
  exact obN_end rfl rfl (grown_refl _ _)
 ·
  intro aA wA hNA hRA hbsA hdpA
  have hRA : w.grownBy wA none := hRA
  have z_wA := hRA.size
  have hb := below_step0 hb hRA hb.size
  have qA_8 : Sl aA 8 undef := hdpA 3 _ 8 (by kernel_rfl) rfl rfl
  have qA_7 : Sl aA 7 (Value.bool true) := hdpA 2 _ 7 (by kernel_rfl) rfl rfl
  clear hbsA hdpA
  refine g_false (j := 2) (dj := 7) (b := false) rfl rfl rfl (ev_base hNA rfl qA_7) rfl rfl ?_
  exact obN_end rfl rfl (grown_refl _ _)
 ·
  intro aA wA hNA hRA hbsA hdpA
  have qA_0 := (hbsA 0 rfl).trans (sl_base hN rfl s0)
  have qA_7 : Sl aA 7 (Value.bool true) := hdpA 2 _ 7 (by kernel_rfl) rfl rfl
  refine g_false (j := 2) (dj := 7) (b := false) rfl rfl rfl (ev_base hNA rfl qA_7) rfl rfl ?_
  exact obN_end rfl rfl (grown_refl _ _)
 ·
  intro aA wA hNA hRA hbsA hdpA
  have qA_10 : Sl aA 10 undef := hdpA 5 _ 10 (by kernel_rfl) rfl rfl
  have qA_7 : Sl aA 7 (Value.bool true) := hdpA 2 _ 7 (by kernel_rfl) rfl rfl
  refine g_false (j := 2) (dj := 7) (b := false) rfl rfl rfl (ev_base hNA rfl qA_7) rfl rfl ?_
  exact obN_end rfl rfl (grown_refl _ _)
 ·
  intro aA wA hNA hRA hbsA hdpA
  have qA_11 : Sl aA 11 undef := hdpA 6 _ 11 (by kernel_rfl) rfl rfl
  have qA_7 : Sl aA 7 (Value.bool true) := hdpA 2 _ 7 (by kernel_rfl) rfl rfl
  refine g_false (j := 2) (dj := 7) (b := false) rfl rfl rfl (ev_base hNA rfl qA_7) rfl rfl ?_
  exact obN_end rfl rfl (grown_refl _ _)
 ·
  intro aA wA hNA hRA hbsA hdpA
  have hRA : w.grownBy wA none := hRA
  have z_wA := hRA.size
  have hb := below_step0 hb hRA hb.size
  have qA_12 : Sl aA 12 undef := hdpA 7 _ 12 (by kernel_rfl) rfl rfl
  have qA_7 : Sl aA 7 (Value.bool true) := hdpA 2 _ 7 (by kernel_rfl) rfl rfl
  clear hbsA hdpA
  refine g_false (j := 2) (dj := 7) (b := false) rfl rfl rfl (ev_base hNA rfl qA_7) rfl rfl ?_
  exact obN_end rfl rfl (grown_refl _ _)
 ·
  intro a79 w79 hN79 hd79 hbs79 hph79 E79
  have hd79 := hd79.trans hd
  have s79_0 := (hbs79 0 rfl).trans (sl_base hN rfl s0)
  have s79_1 := (hbs79 1 rfl).trans (sl_base hN rfl s1)
  have s79_4 := (hbs79 4 rfl).trans (sl_hit hN rfl)
  have s79_7 : Sl a79 7 (Value.bool true) := hph79 2 _ 7 rfl rfl
  have s79_9 : Sl a79 9 undef := hph79 4 _ 9 rfl rfl
  have s79_13 : Sl a79 13 undef := hph79 8 _ 13 rfl rfl
  clear hbs79 hph79
  have E79 : w.grownBy w79 none := E79
  have z_w79 := E79.size
  have hb := below_step0 hb E79 hb.size
  refine split_end ?_
  refine from_seq (tl := [_, _, _]) (by decide) (by kernel_rfl) rfl ?_
  refine g_false (j := 2) (dj := 7) (b := false) rfl rfl rfl (ev_base hN79 rfl s79_7) rfl rfl ?_
  refine g_false (j := 2) (dj := 7) (b := false) rfl rfl rfl (ev_base hN79 rfl s79_7) rfl rfl ?_
  refine op_pick_t (ev_base hN79 rfl s79_7) rfl ?_
  refine reg_nil ?_
  refine hK78 _ _ ?_
  refine wp_cond_true (ev_hit hN79 rfl) ?_
  refine seq_any fun K80 hK80 => ?_
  refine one_reg ?_
  refine op_assign rfl ?_
  refine reg_nil ?_
  refine hK80 _ _ ?_
  refine wp_ret (then_ret ( ?_))
  refine ret1 rfl hd79 (ev_hit hN79 rfl) ⟨_, rfl, ?_⟩
  -- path
  exact ⟨hb, rfl⟩

theorem Head0_s (w : World) : Ret Try.prog 19 #[(Value.pointer none)] w (fun v' w' => Below w.heap.size w w' ∧ v' = .tuple #[(Value.string (bs [])), .bool false]) := by
 have hb := Below.refl w.heap.size w
 refine enter (N := 35) Try.func19 rfl rfl (by simp) fun a0 hN hd hA => ?_
 have s0 : a0.tmps.getD 0 undef = (Value.pointer none) := hA 0 (by simp)
 clear hA
 refine seq_any fun K81 hK81 => ?_
 refine one_reg ?_
 refine op_assign rfl ?_
 refine op_assign rfl ?_
 refine reg_nil ?_
 refine hK81 _ _ ?_
 refine seq_any fun K82 hK82 => ?_
 refine one_reg ?_
 refine op_assign rfl ?_
 refine reg_nil ?_
 refine hK82 _ _ ?_
 refine seq_any fun K83 hK83 => ?_
 refine seq_any fun K84 hK84 => ?_
 refine one_reg ?_
 refine op_move (ev_base hN rfl s0) ?_
 refine op_peq_none ptrt24 (ev_hit hN rfl) rfl ?_
 refine reg_nil ?_
 refine hK84 _ _ ?_
 refine wp_cond_true (ev_hit hN rfl) ?_
 refine seq_any fun K85 hK85 => ?_
 refine one_reg ?_
 refine op_move (ev_hit hN rfl) ?_
 refine op_assign (ev_hit hN rfl) ?_
 refine op_assign rfl ?_
 refine reg_nil ?_
 refine hK85 _ _ ?_
 refine wp_ret (then_ret ( ?_))
 refine ret2 rfl hd (ev_hit hN rfl) (ev_hit hN rfl) ⟨_, rfl, ?_⟩
 -- path
 exact ⟨hb, rfl⟩

theorem Take0_s (w : World) : Ret Try.prog 20 #[(Value.pointer none)] w (fun v' w' => Below w.heap.size w w' ∧ v' = .tuple #[(Value.string (bs [])), .bool false]) := by
 have hb := Below.refl w.heap.size w
 refine enter (N := 17) Try.func20 rfl rfl (by simp) fun a0 hN hd hA => ?_
 have s0 : a0.tmps.getD 0 undef = (Value.pointer none) := hA 0 (by simp)
 clear hA
 refine seq_any fun K86 hK86 => ?_
 refine one_reg ?_
 refine op_assign rfl ?_
 refine op_assign rfl ?_
 refine reg_nil ?_
 refine hK86 _ _ ?_
 refine seq_any fun K87 hK87 => ?_
 refine one_reg ?_
 refine op_move (ev_base hN rfl s0) ?_
 refine op_fn (vs := [(Value.pointer none)]) ok19 ⟨(ev_hit hN rfl), trivial⟩ (Head0_s _) ?_
 rintro _ w88 ⟨E89, rfl⟩
 have E89 := grown_of_below E89
 have z_w88 := E89.size
 have hb := below_step0 hb E89 hb.size
 refine op_move (ev_hit hN rfl) ?_
 refine op_extract (ev_hit hN rfl) rfl ?_
 refine op_extract (ev_hit hN rfl) rfl ?_
 refine op_assign (ev_hit hN rfl) ?_
 refine op_assign (ev_hit hN rfl) ?_
 refine reg_nil ?_
 refine hK87 _ _ ?_
 refine seq_any fun K90 hK90 => ?_
 refine seq_any fun K91 hK91 => ?_
 refine one_reg ?_
 refine op_move (ev_hit hN rfl) ?_
 refine reg_nil ?_
 refine hK91 _ _ ?_
 refine wp_cond_false (ev_hit hN rfl) ?_
 refine wp_skip ?_
 refine hK90 _ _ ?_
 refine seq_any fun K92 hK92 => ?_
 refine one_reg ?_
 refine op_move (ev_hit hN rfl) ?_
 refine op_move (ev_hit hN rfl) ?_
 refine op_assign (ev_hit hN rfl) ?_
 refine op_assign (ev_hit hN rfl) ?_
 refine reg_nil ?_
 refine hK92 _ _ ?_
 refine wp_ret ?_
 refine ret2 rfl hd (ev_hit hN rfl) (ev_hit hN rfl) ⟨_, rfl, ?_⟩
 -- path
 exact ⟨hb, rfl⟩

theorem All0_s (w : World) : Ret Try.prog 22 #[(Value.pointer none)] w (fun v' w' => Below w.heap.size w w' ∧ v' = .slice none 0 0) := by
 have hb := Below.refl w.heap.size w
 refine enter (N := 38) Try.func22 rfl rfl (by simp) fun a0 hN hd hA => ?_
 have s0 : a0.tmps.getD 0 undef = (Value.pointer none) := hA 0 (by simp)
 clear hA
 refine seq_any fun K93 hK93 => ?_
 refine one_reg ?_
 refine op_assign rfl ?_
 refine reg_nil ?_
 refine hK93 _ _ ?_
 refine seq_any fun K94 hK94 => ?_
 refine seq_any fun K95 hK95 => ?_
 refine one_reg ?_
 refine op_move (ev_base hN rfl s0) ?_
 refine op_peq_none ptrt24 (ev_hit hN rfl) rfl ?_
 refine reg_nil ?_
 refine hK95 _ _ ?_
 refine wp_cond_true (ev_hit hN rfl) ?_
 refine seq_any fun K96 hK96 => ?_
 refine one_reg ?_
 refine op_assign rfl ?_
 refine reg_nil ?_
 refine hK96 _ _ ?_
 refine wp_ret (then_ret ( ?_))
 refine ret1 rfl hd (ev_hit hN rfl) ⟨_, rfl, ?_⟩
 -- path
 exact ⟨hb, rfl⟩

theorem Copy0_s (w : World) : Ret Try.prog 21 #[(Value.pointer none)] w (fun v' w' => Below w.heap.size w w' ∧ v' = .pointer none) := by
 have hb := Below.refl w.heap.size w
 refine enter (N := 26) Try.func21 rfl rfl (by simp) fun a0 hN hd hA => ?_
 have s0 : a0.tmps.getD 0 undef = (Value.pointer none) := hA 0 (by simp)
 clear hA
 refine seq_any fun K97 hK97 => ?_
 refine one_reg ?_
 refine op_assign rfl ?_
 refine reg_nil ?_
 refine hK97 _ _ ?_
 refine seq_any fun K98 hK98 => ?_
 refine seq_any fun K99 hK99 => ?_
 refine one_reg ?_
 refine op_move (ev_base hN rfl s0) ?_
 refine op_peq_none ptrt24 (ev_hit hN rfl) rfl ?_
 refine reg_nil ?_
 refine hK99 _ _ ?_
 refine wp_cond_true (ev_hit hN rfl) ?_
 refine seq_any fun K100 hK100 => ?_
 refine one_reg ?_
 refine op_assign rfl ?_
 refine reg_nil ?_
 refine hK100 _ _ ?_
 refine wp_ret (then_ret ( ?_))
 refine ret1 rfl hd (ev_hit hN rfl) ⟨_, rfl, ?_⟩
 -- path
 exact ⟨hb, rfl⟩

theorem All_i (H B : List Int) (hv : Value) (base p c cap : Nat) (w : World) (hbase : base ≤ w.heap.size) (hH : H.length ≤ 1) (hcap : H.length + B.length ≤ cap) (hcm : cap ≤ 1000) (hx : Bx w p 37 [.chan (some c), hv]) (O : Own w base 3 1 hv H.length (H.map (Value.int .i64))) (hC : ChC w c cap (B.map (Value.int .i64))) : Ret Try.prog 28 #[(ptr p 0)] w (fun v' w' => w.grownBy w' (some c) ∧ Own w' w.heap.size 3 1 v' (H ++ B).length ((H ++ B).map (Value.int .i64)) ∧ ChC w' c cap (B.map (Value.int .i64))) := by
 have hi_p := hx.lt
 have hi_c := hC.lt
 have hb := grown_refl w (some c)
 refine enter (N := 38) Try.func28 rfl rfl (by simp) fun a0 hN hd hA => ?_
 have s0 : a0.tmps.getD 0 undef = (ptr p 0) := hA 0 (by simp)
 clear hA
 refine seq_any fun K101 hK101 => ?_
 refine one_reg ?_
 refine op_assign rfl ?_
 refine reg_nil ?_
 refine hK101 _ _ ?_
 refine seq_any fun K102 hK102 => ?_
 refine seq_any fun K103 hK103 => ?_
 refine one_reg ?_
 refine op_move (ev_base hN rfl s0) ?_
 refine op_peq_some ptrt33 (ev_hit hN rfl) rfl ?_
 refine reg_nil ?_
 refine hK103 _ _ ?_
 refine wp_cond_false (ev_hit hN rfl) ?_
 refine wp_skip ?_
 refine hK102 _ _ ?_
 refine seq_any fun K104 hK104 => ?_
 refine one_reg ?_
 refine op_move (ev_base hN rfl s0) ?_
 refine op_nil (ev_hit hN rfl) ?_
 refine op_field fld37_1 (ev_hit hN rfl) ?_
 refine op_load1 (v := hv) one35 (ev_hit hN rfl) (hx.cell rfl) ?_
 refine op_fn (vs := [hv]) ok73 ⟨(ev_hit hN rfl), trivial⟩ (Clone_i H _ _ (by omega) (O.rdw.mono (Nat.zero_le _) (by omega))) ?_
 rintro v105 w106 ⟨E107, hO105⟩
 have dj108 : DJ v105 hv := fun k hk hg => by have q1 := (hO105.lt k hk).1; have q2 := (O.lt k hg).2; omega
 have E107 := grown_of_below E107
 have z_w106 := E107.size
 have hx := hx.keep0 E107
 have O := O.keep0 E107
 have hC := hC.keep0 E107
 have hb := grow_step0 hb E107
 have hO105 := hO105.mono (base' := w.heap.size) (by omega)
 refine op_assign (ev_hit hN rfl) ?_
 refine reg_nil ?_
 refine hK104 _ _ ?_
 refine seq_any fun K109 hK109 => ?_
 refine seq_any fun K110 hK110 => ?_
 refine one_reg ?_
 refine op_move (ev_base hN rfl s0) ?_
 refine op_nil (ev_hit hN rfl) ?_
 refine op_field fld37_0 (ev_hit hN rfl) ?_
 refine op_load1 (v := (Value.chan (some c))) one34 (ev_hit hN rfl) (hx.cell rfl) ?_
 refine op_len_chanL Try.underlying34 (ev_hit hN rfl) hC ?_
 refine op_move rfl ?_
 refine reg_nil ?_
 refine hK110 _ _ ?_
 refine wp_block ?_
 refine loop_m (fun mz_ az_ w' => ∃ (i : Nat) (lv : Value), mz_ = B.length - i ∧ (az_.tmps.getD 0 undef = (ptr p 0)) ∧ (az_.tmps.getD 2 undef = (Value.slice none 0 0)) ∧ (az_.tmps.getD 16 undef = (Value.int .i64 ((B.length : Nat) : Int))) ∧ (az_.tmps.getD 17 undef = (Value.int .i64 ((i : Nat) : Int))) ∧ (az_.tmps.getD 3 undef = lv) ∧ (i ≤ B.length) ∧ (DJ hv lv) ∧ (w.grownBy w' (some c)) ∧ (w106.heap.size ≤ w'.heap.size) ∧ (Bx w' p 37 [(Value.chan (some c)), hv]) ∧ (Own w' base 3 1 hv H.length (H.map (Value.int .i64))) ∧ (ChC w' c cap ((B.drop i ++ B.take i).map (Value.int .i64))) ∧ (Own w' w.heap.size 3 1 lv (H.length + i) ((H ++ B.take i).map (Value.int .i64)))) _ hN hd ⟨0, v105, rfl, (sl_base hN rfl s0), (sl_hit hN rfl), (sl_hit hN rfl), (sl_hit hN rfl), (sl_hit hN rfl), (by omega), dj108.symm, hb, (Nat.le_refl _), hx, O, (by simpa using hC), (hO105.cast (by simp) (by simp))⟩ ?_
 rintro _ a111 w111 hN111 hd111 ⟨i, lv, rfl, s111_0, s111_2, s111_16, s111_17, s111_3, hi, hdj, hb, zl_w111, hx, O, hC, hO112⟩
 have z_w111 := hb.size
 refine seq_any fun K113 hK113 => ?_
 refine one_reg ?_
 refine op_lss (ev_base hN111 rfl s111_17) (ev_base hN111 rfl s111_16) (fun c18 => ?_) (fun c18 => ?_)
 · -- 18T
  refine reg_nil ?_
  refine hK113 _ _ ?_
  refine seq_any fun K114 hK114 => ?_
  refine wp_cond_true (ev_hit hN111 rfl) ?_
  refine wp_skip ?_
  refine hK114 _ _ ?_
  refine seq_any fun K115 hK115 => ?_
  refine wp_block ?_
  refine seq_any fun K116 hK116 => ?_
  refine one_reg ?_
  refine op_move (ev_base hN111 rfl s111_0) ?_
  refine op_nil (ev_hit hN111 rfl) ?_
  refine op_field fld37_0 (ev_hit hN111 rfl) ?_
  refine op_load1 (v := (Value.chan (some c))) one34 (ev_hit hN111 rfl) (hx.cell rfl) ?_
  refine reg_nil ?_
  refine hK116 _ _ ?_
  refine seq_any fun K117 hK117 => ?_
  have hC_old := hC
  refine reg_recv (f := (Value.int .i64)) zero3 (ev_hit hN111 rfl) hC (fun y121 M122 w118 hL123 hC120 E119 => ?_) (fun hL123 => ?_)
  · -- 23T
   have z_w118 := E119.size
   have hx := hx.keepC hC_old E119
   have O := O.keepC hC_old E119
   have hO112 := hO112.keepC hC_old E119
   have hb := grown_trans hb E119
   refine op_extract (ev_hit hN111 rfl) rfl ?_
   refine op_bin (v := .bool true) (ev_hit hN111 rfl) rfl (by rw [binOp_eql]; rfl) ?_
   refine reg_nil ?_
   refine hK117 _ _ ?_
   refine wp_block ?_
   refine wp_cond_true (ev_hit hN111 rfl) ?_
   refine seq_any fun K124 hK124 => ?_
   refine one_reg ?_
   refine op_extract (ev_hit hN111 rfl) rfl ?_
   refine op_assign (ev_hit hN111 rfl) ?_
   refine reg_nil ?_
   refine hK124 _ _ ?_
   refine seq_any fun K125 hK125 => ?_
   refine one_reg ?_
   refine op_move (ev_base hN111 rfl s111_3) ?_
   refine op_move (ev_hit hN111 rfl) ?_
   refine op_bslice (e := 3) (pv := [(0, (Value.int .i64 y121))]) (cs := [(Value.int .i64 y121)]) ⟨rfl, (ev_hit hN111 rfl), trivial⟩ (by kernel_rfl) ?_
   intro w126 b127 lo_b127 hi_b127 hB129 E128
   have ne_b127_hv : hv.ownBlock ≠ some b127 := fun hh => by have := (O.lt _ hh).2; omega
   have ne_b127_lv : lv.ownBlock ≠ some b127 := fun hh => by have := (hO112.lt _ hh).2; omega
   have z_w126 := E128.size
   have hx := hx.keep0 E128
   have O := O.keep0 E128
   have hO112 := hO112.keep0 E128
   have hC120 := hC120.keep0 E128
   have hb := grow_step0 hb E128
   have hP135 := hO112
   refine op_append slt35 (ev_hit hN111 rfl) hP135 (ev_hit hN111 rfl) (Src.ofRd Try.underlying35 (by decide) (RdC.ofBx (sz := 1) (n := 1) hB129 rfl (by decide)) (by simp [Value.oneCell', u8v])) (by unfold maxLen; omega) (by omega) hb.size ?_
   intro v130 w131 hO133 E132 hm134
   have dj136 : DJ hv v130 := DJ.step hm134 (fun k hk => (O.lt k hk).2) hdj
   have z_w131 := E132.size
   have hx := hx.keepO hP135 E132 (by decide)
   have O := O.keepD E132 hdj
   have hC120 := hC120.keepO hP135 E132
   have hB129 := hB129.keep E132 (fun hh => ne_b127_lv hh.symm)
   have hb := grow_stepO hb hP135 E132 (by omega)
   have hO133 : Own w131 w.heap.size 3 1 v130 ((H.length + i) + 1) ((((H ++ B.take i) ++ [y121])).map (Value.int .i64)) := by simpa [u8v, u16v, sv] using hO133
   have ne_b127_v130 : v130.ownBlock ≠ some b127 := ne_step (w1 := w126) ⟨E132, hm134⟩ (by omega) ne_b127_lv
   refine op_assign (ev_hit hN111 rfl) ?_
   refine reg_nil ?_
   refine hK125 _ _ ?_
   refine reg_last (pre := [_, _, _, _, _]) ?_
   refine op_move (ev_base hN111 rfl s111_0) ?_
   refine op_nil (ev_hit hN111 rfl) ?_
   refine op_field fld37_0 (ev_hit hN111 rfl) ?_
   refine op_load1 (v := (Value.chan (some c))) one34 (ev_hit hN111 rfl) (hx.cell rfl) ?_
   refine op_move (ev_hit hN111 rfl) ?_
   refine reg_nil ?_
   have hC120_old := hC120
   refine last_send (i := 5) rfl (ev_hit hN111 rfl) (ev_hit hN111 rfl) hC120 (by have := congrArg List.length hL123; simp at this ⊢; omega) ?_
   intro w137 hC139 E138
   have hC139 : ChC w137 c cap ((M122 ++ [y121]).map (Value.int .i64)) := by simpa using hC139
   have z_w137 := E138.size
   have hx := hx.keepC hC120_old E138
   have O := O.keepC hC120_old E138
   have hB129 := hB129.keepC hC120_old E138
   have hO133 := hO133.keepC hC120_old E138
   have hb := grown_trans hb E138
   refine hK115 _ _ ?_
   refine one_reg ?_
   refine op_add (ev_base hN111 rfl s111_17) rfl (add64 (by omega)) ?_
   refine op_move (ev_hit hN111 rfl) ?_
   refine reg_nil ?_
   -- round 18T 23T
   have hro := rot_go (by omega) hL123
   exact loop_next _ hN111 hd111 ⟨(i + 1), v130, rfl, (sl_base hN111 rfl s111_0), (sl_base hN111 rfl s111_2), (sl_base hN111 rfl s111_16), (sl_hit hN111 rfl).trans (congrArg (Value.int .i64) (by omega)), (sl_hit hN111 rfl), (by omega), dj136, hb, (by omega), hx, O, (by rw [← hro.1]; exact hC139), (hO133.cast (by omega) (by rw [← hro.2, ← List.append_assoc]))⟩ (by omega)
  · -- 23F
   exfalso; have := congrArg List.length hL123; simp at this; omega
 · -- 18F
  refine reg_nil ?_
  refine hK113 _ _ ?_
  refine seq_any fun K140 hK140 => ?_
  refine wp_cond_false (ev_hit hN111 rfl) ?_
  refine wp_exit (then_exit (then_exit (blk_hit ?_)))
  refine hK109 _ _ ?_
  refine seq_any fun K141 hK141 => ?_
  refine one_reg ?_
  refine op_move (ev_base hN111 rfl s111_3) ?_
  refine op_assign (ev_hit hN111 rfl) ?_
  refine reg_nil ?_
  refine hK141 _ _ ?_
  refine wp_ret ?_
  refine ret1 rfl hd111 (ev_hit hN111 rfl) ⟨_, rfl, ?_⟩
  -- path 18F
  have hi9 : i = B.length := by omega
  subst hi9
  exact ⟨hb, hO112.cast (by simp) (by simp), by simpa using hC⟩

theorem Len0_i (w : World) : Ret Try.prog 27 #[(Value.pointer none)] w (fun v' w' => Below w.heap.size w w' ∧ v' = .int .i64 0) := by
 have hb := Below.refl w.heap.size w
 refine enter (N := 16) Try.func27 rfl rfl (by simp) fun a0 hN hd hA => ?_
 have s0 : a0.tmps.getD 0 undef = (Value.pointer none) := hA 0 (by simp)
 clear hA
 refine seq_any fun K142 hK142 => ?_
 refine one_reg ?_
 refine op_assign rfl ?_
 refine reg_nil ?_
 refine hK142 _ _ ?_
 refine seq_any fun K143 hK143 => ?_
 refine seq_any fun K144 hK144 => ?_
 refine one_reg ?_
 refine op_move (ev_base hN rfl s0) ?_
 refine op_peq_none ptrt33 (ev_hit hN rfl) rfl ?_
 refine reg_nil ?_
 refine hK144 _ _ ?_
 refine wp_cond_true (ev_hit hN rfl) ?_
 refine seq_any fun K145 hK145 => ?_
 refine one_reg ?_
 refine op_assign rfl ?_
 refine reg_nil ?_
 refine hK145 _ _ ?_
 refine wp_ret (then_ret ( ?_))
 refine ret1 rfl hd (ev_hit hN rfl) ⟨_, rfl, ?_⟩
 -- path
 exact ⟨hb, rfl⟩

theorem Put0_i (x : Int) (w : World) : Ret Try.prog 26 #[(Value.pointer none), (Value.int .i64 x)] w (fun v' w' => Below w.heap.size w w' ∧ v' = .bool false) := by
 have hb := Below.refl w.heap.size w
 refine enter (N := 25) Try.func26 rfl rfl (by simp) fun a0 hN hd hA => ?_
 have s0 : a0.tmps.getD 0 undef = (Value.pointer none) := hA 0 (by simp)
 have s1 : a0.tmps.getD 1 undef = (Value.int .i64 x) := hA 1 (by simp)
 clear hA
 refine seq_any fun K146 hK146 => ?_
 refine one_reg ?_
 refine op_assign rfl ?_
 refine reg_nil ?_
 refine hK146 _ _ ?_
 refine seq_any fun K147 hK147 => ?_
 refine seq_any fun K148 hK148 => ?_
 refine reg_split (hd := [_, _, _, _, _, _, _, _, _]) (tl := _) 9 mixed (by kernel_rfl) rfl rfl ?_
 refine any_quiet (Φ := phiL [(fun uz _ => uz = (Value.pointer none)), (fun uz _ => uz = (Value.bool true)), (fun uz _ => uz = (Value.bool true)), (fun uz _ => uz = undef), (fun uz _ => uz = undef), (fun uz _ => uz = undef), (fun uz _ => uz = undef), (fun uz _ => uz = undef), (fun uz _ => uz = undef)]) (by kernel_rfl) (by kernel_rfl) (by kernel_rfl) hN (StL.get (StL.eq (StL.eq (StL.eq (StL.eq (StL.eq (StL.eq (StL.eq (StL.eq (StL.eq (StL.nil _))))))))))) (ObL.get (s := 9) (ObL.cons ?_ (ObL.cons ?_ (ObL.cons ?_ (ObL.cons ?_ (ObL.cons ?_ (ObL.cons ?_ (ObL.cons ?_ (ObL.cons ?_ (ObL.cons ?_ (ObL.nil)))))))))) rfl) ?_
 ·
  intro aA wA hNA hRA hbsA hdpA
  have qA_0 := (hbsA 0 rfl).trans (sl_base hN rfl s0)
  refine op_move (ev_base hNA rfl qA_0) ?_
  exact obN_end rfl rfl (grown_refl _ _)
 ·
  intro aA wA hNA hRA hbsA hdpA
  have qA_5 : Sl aA 5 (Value.pointer none) := hdpA 0 _ 5 (by kernel_rfl) rfl rfl
  refine op_peq_none ptrt33 (ev_base hNA rfl qA_5) rfl ?_
  exact obN_end rfl rfl (grown_refl _ _)
 ·
  intro aA wA hNA hRA hbsA hdpA
  have qA_6 : Sl aA 6 (Value.bool true) := hdpA 1 _ 6 (by kernel_rfl) rfl rfl
  refine op_move (ev_base hNA rfl qA_6) ?_
  exact obN_end rfl rfl (grown_refl _ _)
 ·
  intro aA wA hNA hRA hbsA hdpA
  have qA_0 := (hbsA 0 rfl).trans (sl_base hN rfl s0)
  have qA_7 : Sl aA 7 (Value.bool true) := hdpA 2 _ 7 (by kernel_rfl) rfl rfl
  refine g_false (j := 2) (dj := 7) (b := false) rfl rfl rfl (ev_base hNA rfl qA_7) rfl rfl ?_
  exact obN_end rfl rfl (grown_refl _ _)
 ·
  intro aA wA hNA hRA hbsA hdpA
  have hRA : w.grownBy wA none := hRA
  have z_wA := hRA.size
  have hb := below_step0 hb hRA hb.size
  have qA_8 : Sl aA 8 undef := hdpA 3 _ 8 (by kernel_rfl) rfl rfl
  have qA_7 : Sl aA 7 (Value.bool true) := hdpA 2 _ 7 (by kernel_rfl) rfl rfl
  clear hbsA hdpA
  refine g_false (j := 2) (dj := 7) (b := false) rfl rfl rfl (ev_base hNA rfl qA_7) rfl rfl ?_
  exact obN_end rfl rfl (grown_refl _ _)
 ·
  intro aA wA hNA hRA hbsA hdpA
  have qA_0 := (hbsA 0 rfl).trans (sl_base hN rfl s0)
  have qA_7 : Sl aA 7 (Value.bool true) := hdpA 2 _ 7 (by kernel_rfl) rfl rfl
  refine g_false (j := 2) (dj := 7) (b := false) rfl rfl rfl (ev_base hNA rfl qA_7) rfl rfl ?_
  exact obN_end rfl rfl (grown_refl _ _)
 ·
  intro aA wA hNA hRA hbsA hdpA
  have qA_10 : Sl aA 10 undef := hdpA 5 _ 10 (by kernel_rfl) rfl rfl
  have qA_7 : Sl aA 7 (Value.bool true) := hdpA 2 _ 7 (by kernel_rfl) rfl rfl
  refine g_false (j := 2) (dj := 7) (b := false) rfl rfl rfl (ev_base hNA rfl qA_7) rfl rfl ?_
  exact obN_end rfl rfl (grown_refl _ _)
 ·
  intro aA wA hNA hRA hbsA hdpA
  have qA_11 : Sl aA 11 undef := hdpA 6 _ 11 (by kernel_rfl) rfl rfl
  have qA_7 : Sl aA 7 (Value.bool true) := hdpA 2 _ 7 (by kernel_rfl) rfl rfl
  refine g_false (j := 2) (dj := 7) (b := false) rfl rfl rfl (ev_base hNA rfl qA_7) rfl rfl ?_
  exact obN_end rfl rfl (grown_refl _ _)
 ·
  intro aA wA hNA hRA hbsA hdpA
  have hRA : w.grownBy wA none := hRA
  have z_wA := hRA.size
  have hb := below_step0 hb hRA hb.size
  have qA_12 : Sl aA 12 undef := hdpA 7 _ 12 (by kernel_rfl) rfl rfl
  have qA_7 : Sl aA 7 (Value.bool true) := hdpA 2 _ 7 (by kernel_rfl) rfl rfl
  clear hbsA hdpA
  refine g_false (j := 2) (dj := 7) (b := false) rfl rfl rfl (ev_base hNA rfl qA_7) rfl rfl ?_
  exact obN_end rfl rfl (grown_refl _ _)
 ·
  intro a149 w149 hN149 hd149 hbs149 hph149 E149
  have hd149 := hd149.trans hd
  have s149_0 := (hbs149 0 rfl).trans (sl_base hN rfl s0)
  have s149_1 := (hbs149 1 rfl).trans (sl_base hN rfl s1)
  have s149_4 := (hbs149 4 rfl).trans (sl_hit hN rfl)
  have s149_7 : Sl a149 7 (Value.bool true) := hph149 2 _ 7 rfl rfl
  have s149_9 : Sl a149 9 undef := hph149 4 _ 9 rfl rfl
  have s149_13 : Sl a149 13 undef := hph149 8 _ 13 rfl rfl
  clear hbs149 hph149
  have E149 : w.grownBy w149 none := E149
  have z_w149 := E149.size
  have hb := below_step0 hb E149 hb.size
  refine split_end ?_
  refine from_seq (tl := [_, _, _]) (by decide) (by kernel_rfl) rfl ?_
  refine g_false (j := 2) (dj := 7) (b := false) rfl rfl rfl (ev_base hN149 rfl s149_7) rfl rfl ?_
  refine g_false (j := 2) (dj := 7) (b := false) rfl rfl rfl (ev_base hN149 rfl s149_7) rfl rfl ?_
  refine op_pick_t (ev_base hN149 rfl s149_7) rfl ?_
  refine reg_nil ?_
  refine hK148 _ _ ?_
  refine wp_cond_true (ev_hit hN149 rfl) ?_
  refine seq_any fun K150 hK150 => ?_
  refine one_reg ?_
  refine op_assign rfl ?_
  refine reg_nil ?_
  refine hK150 _ _ ?_
  refine wp_ret (then_ret ( ?_))
  refine ret1 rfl hd149 (ev_hit hN149 rfl) ⟨_, rfl, ?_⟩
  -- path
  exact ⟨hb, rfl⟩

theorem Head0_i (w : World) : Ret Try.prog 24 #[(Value.pointer none)] w (fun v' w' => Below w.heap.size w w' ∧ v' = .tuple #[(Value.int .i64 0), .bool false]) := by
 have hb := Below.refl w.heap.size w
 refine enter (N := 35) Try.func24 rfl rfl (by simp) fun a0 hN hd hA => ?_
 have s0 : a0.tmps.getD 0 undef = (Value.pointer none) := hA 0 (by simp)
 clear hA
 refine seq_any fun K151 hK151 => ?_
 refine one_reg ?_
 refine op_assign rfl ?_
 refine op_assign rfl ?_
 refine reg_nil ?_
 refine hK151 _ _ ?_
 refine seq_any fun K152 hK152 => ?_
 refine one_reg ?_
 refine op_assign rfl ?_
 refine reg_nil ?_
 refine hK152 _ _ ?_
 refine seq_any fun K153 hK153 => ?_
 refine seq_any fun K154 hK154 => ?_
 refine one_reg ?_
 refine op_move (ev_base hN rfl s0) ?_
 refine op_peq_none ptrt33 (ev_hit hN rfl) rfl ?_
 refine reg_nil ?_
 refine hK154 _ _ ?_
 refine wp_cond_true (ev_hit hN rfl) ?_
 refine seq_any fun K155 hK155 => ?_
 refine one_reg ?_
 refine op_move (ev_hit hN rfl) ?_
 refine op_assign (ev_hit hN rfl) ?_
 refine op_assign rfl ?_
 refine reg_nil ?_
 refine hK155 _ _ ?_
 refine wp_ret (then_ret ( ?_))
 refine ret2 rfl hd (ev_hit hN rfl) (ev_hit hN rfl) ⟨_, rfl, ?_⟩
 -- path
 exact ⟨hb, rfl⟩

theorem Take0_i (w : World) : Ret Try.prog 25 #[(Value.pointer none)] w (fun v' w' => Below w.heap.size w w' ∧ v' = .tuple #[(Value.int .i64 0), .bool false]) := by
 have hb := Below.refl w.heap.size w
 refine enter (N := 17) Try.func25 rfl rfl (by simp) fun a0 hN hd hA => ?_
 have s0 : a0.tmps.getD 0 undef = (Value.pointer none) := hA 0 (by simp)
 clear hA
 refine seq_any fun K156 hK156 => ?_
 refine one_reg ?_
 refine op_assign rfl ?_
 refine op_assign rfl ?_
 refine reg_nil ?_
 refine hK156 _ _ ?_
 refine seq_any fun K157 hK157 => ?_
 refine one_reg ?_
 refine op_move (ev_base hN rfl s0) ?_
 refine op_fn (vs := [(Value.pointer none)]) ok24 ⟨(ev_hit hN rfl), trivial⟩ (Head0_i _) ?_
 rintro _ w158 ⟨E159, rfl⟩
 have E159 := grown_of_below E159
 have z_w158 := E159.size
 have hb := below_step0 hb E159 hb.size
 refine op_move (ev_hit hN rfl) ?_
 refine op_extract (ev_hit hN rfl) rfl ?_
 refine op_extract (ev_hit hN rfl) rfl ?_
 refine op_assign (ev_hit hN rfl) ?_
 refine op_assign (ev_hit hN rfl) ?_
 refine reg_nil ?_
 refine hK157 _ _ ?_
 refine seq_any fun K160 hK160 => ?_
 refine seq_any fun K161 hK161 => ?_
 refine one_reg ?_
 refine op_move (ev_hit hN rfl) ?_
 refine reg_nil ?_
 refine hK161 _ _ ?_
 refine wp_cond_false (ev_hit hN rfl) ?_
 refine wp_skip ?_
 refine hK160 _ _ ?_
 refine seq_any fun K162 hK162 => ?_
 refine one_reg ?_
 refine op_move (ev_hit hN rfl) ?_
 refine op_move (ev_hit hN rfl) ?_
 refine op_assign (ev_hit hN rfl) ?_
 refine op_assign (ev_hit hN rfl) ?_
 refine reg_nil ?_
 refine hK162 _ _ ?_
 refine wp_ret ?_
 refine ret2 rfl hd (ev_hit hN rfl) (ev_hit hN rfl) ⟨_, rfl, ?_⟩
 -- path
 exact ⟨hb, rfl⟩

theorem All0_i (w : World) : Ret Try.prog 28 #[(Value.pointer none)] w (fun v' w' => Below w.heap.size w w' ∧ v' = .slice none 0 0) := by
 have hb := Below.refl w.heap.size w
 refine enter (N := 38) Try.func28 rfl rfl (by simp) fun a0 hN hd hA => ?_
 have s0 : a0.tmps.getD 0 undef = (Value.pointer none) := hA 0 (by simp)
 clear hA
 refine seq_any fun K163 hK163 => ?_
 refine one_reg ?_
 refine op_assign rfl ?_
 refine reg_nil ?_
 refine hK163 _ _ ?_
 refine seq_any fun K164 hK164 => ?_
 refine seq_any fun K165 hK165 => ?_
 refine one_reg ?_
 refine op_move (ev_base hN rfl s0) ?_
 refine op_peq_none ptrt33 (ev_hit hN rfl) rfl ?_
 refine reg_nil ?_
 refine hK165 _ _ ?_
 refine wp_cond_true (ev_hit hN rfl) ?_
 refine seq_any fun K166 hK166 => ?_
 refine one_reg ?_
 refine op_assign rfl ?_
 refine reg_nil ?_
 refine hK166 _ _ ?_
 refine wp_ret (then_ret ( ?_))
 refine ret1 rfl hd (ev_hit hN rfl) ⟨_, rfl, ?_⟩
 -- path
 exact ⟨hb, rfl⟩

theorem Copy0_i (w : World) : Ret Try.prog 29 #[(Value.pointer none)] w (fun v' w' => Below w.heap.size w w' ∧ v' = .pointer none) := by
 have hb := Below.refl w.heap.size w
 refine enter (N := 26) Try.func29 rfl rfl (by simp) fun a0 hN hd hA => ?_
 have s0 : a0.tmps.getD 0 undef = (Value.pointer none) := hA 0 (by simp)
 clear hA
 refine seq_any fun K167 hK167 => ?_
 refine one_reg ?_
 refine op_assign rfl ?_
 refine reg_nil ?_
 refine hK167 _ _ ?_
 refine seq_any fun K168 hK168 => ?_
 refine seq_any fun K169 hK169 => ?_
 refine one_reg ?_
 refine op_move (ev_base hN rfl s0) ?_
 refine op_peq_none ptrt33 (ev_hit hN rfl) rfl ?_
 refine reg_nil ?_
 refine hK169 _ _ ?_
 refine wp_cond_true (ev_hit hN rfl) ?_
 refine seq_any fun K170 hK170 => ?_
 refine one_reg ?_
 refine op_assign rfl ?_
 refine reg_nil ?_
 refine hK170 _ _ ?_
 refine wp_ret (then_ret ( ?_))
 refine ret1 rfl hd (ev_hit hN rfl) ⟨_, rfl, ?_⟩
 -- path
 exact ⟨hb, rfl⟩

end Go.Proofs.Ytmhdbphpmgjpcaa

/- Posts as objects: what is done with letters that wait, told of a list. -/
namespace Go.Proofs.Ytmhdbphpmgjpcaa
open Go.Gx Go.RowKit

theorem NewR_s (n : Int) (w : World) (hn : -9223372036854775808 ≤ n ∧ n ≤ 9223372036854775807) : Ret Try.prog 17 #[.int .i64 n] w (fun v' w' => Below w.heap.size w w' ∧ ∃ (p : Nat) (F : Nat → Prop), v' = ptr p 0 ∧ PostR sv 126 9 w' w.heap.size p (min (max n 0) 1000).toNat [] F) :=
  (New_s n w hn).mono fun v' w' h => by
    obtain ⟨E, p, c, rfl, hp, hc, hx, C⟩ := h
    exact ⟨E, p, _, rfl, c, _, [], [], rfl, by simp, by simp, by omega, hp, hc, hx, Own.nil _ _ _ _, C, fun k => Iff.rfl⟩
theorem LenR_s {base p cap : Nat} {L : List (List UInt8)} {F : Nat → Prop} {w : World} (hb : base ≤ w.heap.size) (h : PostR sv 126 9 w base p cap L F) : Ret Try.prog 23 #[ptr p 0] w (fun v' w' => Below w.heap.size w w' ∧ v' = .int .i64 ((L.length : Nat) : Int)) := by
  obtain ⟨c, hv, H, B, rfl, h2, h3, h4, hp, hc, hx, O, C, hF⟩ := h
  exact (Len_s H B hv base p c cap w hb h2 h3 h4 hx O C).mono fun v' w' h => ⟨h.1, h.2.trans (by simp)⟩
theorem PutR_s (x : List UInt8) {base p cap : Nat} {L : List (List UInt8)} {F : Nat → Prop} {w : World} (hb : base ≤ w.heap.size) (h : PostR sv 126 9 w base p cap L F) : Ret Try.prog 18 #[ptr p 0, (Value.string (bs x))] w (fun v' w' => Gr w w' F ∧ v' = .bool (decide (L.length < cap)) ∧ PostR sv 126 9 w' base p cap (putL cap L x) F) := by
  obtain ⟨c, hv, H, B, rfl, h2, h3, h4, hp, hc, hx, O, C, hF⟩ := h
  refine (Put_s x H B hv base p c cap w hb h2 h3 h4 hx O C).mono fun v' w' h => ?_
  obtain ⟨E, rfl, C2⟩ := h
  refine ⟨(Gr.of E).mono fun k _ hk => (hF k).2 (.inr (.inl (Option.some.inj hk).symm)), by rw [List.length_append], c, hv, H, _, ?_, h2, ?_, h4, hp, hc, hx.keepC C E, O.keepC C E, C2, hF⟩
  · unfold putL; rw [List.length_append]; split <;> simp
  · split
    · simp; omega
    · omega
theorem HeadR_s {base p cap : Nat} {L : List (List UInt8)} {F : Nat → Prop} {w : World} (hb : base ≤ w.heap.size) (h : PostR sv 126 9 w base p cap L F) : Ret Try.prog 19 #[ptr p 0] w (fun v' w' => Gr w w' F ∧ v' = .tuple #[(Value.string (bs (L.getD 0 []))), .bool (decide (0 < L.length))] ∧ ∃ F', PostR sv 126 9 w' base p cap L F' ∧ NewF w.heap.size F F') := by
  obtain ⟨c, hv, H, B, rfl, h2, h3, h4, hp, hc, hx, O, C, hF⟩ := h
  refine (Head_s H B hv base p c cap w hb h2 h3 h4 hx O C).mono fun v' w' h => ?_
  obtain ⟨E, rfl, hv', H', B', hx', O', C', he, hl, hm, _⟩ := h
  obtain ⟨E', r⟩ := PostR.turn hF E hx' O' C' he hl (by simp; omega) h4 hp hc hm
  exact ⟨E', rfl, r⟩
theorem TakeR_s {base p cap : Nat} {L : List (List UInt8)} {F : Nat → Prop} {w : World} (hb : base ≤ w.heap.size) (h : PostR sv 126 9 w base p cap L F) : Ret Try.prog 20 #[ptr p 0] w (fun v' w' => Gr w w' F ∧ v' = .tuple #[(Value.string (bs (L.getD 0 []))), .bool (decide (0 < L.length))] ∧ ∃ F', PostR sv 126 9 w' base p cap (L.drop 1) F' ∧ NewF w.heap.size F F') := by
  obtain ⟨c, hv, H, B, rfl, h2, h3, h4, hp, hc, hx, O, C, hF⟩ := h
  refine (Take_s H B hv base p c cap w hb h2 h3 h4 hx O C).mono fun v' w' h => ?_
  obtain ⟨E, rfl, hv', H', B', hx', O', C', he, hl, hm, _⟩ := h
  obtain ⟨E', r⟩ := PostR.turn hF E hx' O' C' he hl (by simp; omega) h4 hp hc hm
  exact ⟨E', rfl, r⟩
theorem AllR_s {base p cap : Nat} {L : List (List UInt8)} {F : Nat → Prop} {w : World} (hb : base ≤ w.heap.size) (h : PostR sv 126 9 w base p cap L F) : Ret Try.prog 22 #[ptr p 0] w (fun v' w' => Gr w w' F ∧ Own w' w.heap.size 9 1 v' L.length (L.map sv) ∧ PostR sv 126 9 w' base p cap L F) := by
  obtain ⟨c, hv, H, B, rfl, h2, h3, h4, hp, hc, hx, O, C, hF⟩ := h
  refine (All_s H B hv base p c cap w hb h2 h3 h4 hx O C).mono fun v' w' h => ?_
  obtain ⟨E, O2, C2⟩ := h
  exact ⟨(Gr.of E).mono fun k _ hk => (hF k).2 (.inr (.inl (Option.some.inj hk).symm)), O2, c, hv, H, B, rfl, h2, h3, h4, hp, hc, hx.keepC C E, O.keepC C E, C2, hF⟩

theorem NewR_i (n : Int) (w : World) (hn : -9223372036854775808 ≤ n ∧ n ≤ 9223372036854775807) : Ret Try.prog 71 #[.int .i64 n] w (fun v' w' => Below w.heap.size w w' ∧ ∃ (p : Nat) (F : Nat → Prop), v' = ptr p 0 ∧ PostR (Value.int .i64) 37 3 w' w.heap.size p (min (max n 0) 1000).toNat [] F) :=
  (New_i n w hn).mono fun v' w' h => by
    obtain ⟨E, p, c, rfl, hp, hc, hx, C⟩ := h
    exact ⟨E, p, _, rfl, c, _, [], [], rfl, by simp, by simp, by omega, hp, hc, hx, Own.nil _ _ _ _, C, fun k => Iff.rfl⟩
theorem LenR_i {base p cap : Nat} {L : List (Int)} {F : Nat → Prop} {w : World} (hb : base ≤ w.heap.size) (h : PostR (Value.int .i64) 37 3 w base p cap L F) : Ret Try.prog 27 #[ptr p 0] w (fun v' w' => Below w.heap.size w w' ∧ v' = .int .i64 ((L.length : Nat) : Int)) := by
  obtain ⟨c, hv, H, B, rfl, h2, h3, h4, hp, hc, hx, O, C, hF⟩ := h
  exact (Len_i H B hv base p c cap w hb h2 h3 h4 hx O C).mono fun v' w' h => ⟨h.1, h.2.trans (by simp)⟩
theorem PutR_i (x : Int) {base p cap : Nat} {L : List (Int)} {F : Nat → Prop} {w : World} (hb : base ≤ w.heap.size) (h : PostR (Value.int .i64) 37 3 w base p cap L F) : Ret Try.prog 26 #[ptr p 0, (Value.int .i64 x)] w (fun v' w' => Gr w w' F ∧ v' = .bool (decide (L.length < cap)) ∧ PostR (Value.int .i64) 37 3 w' base p cap (putL cap L x) F) := by
  obtain ⟨c, hv, H, B, rfl, h2, h3, h4, hp, hc, hx, O, C, hF⟩ := h
  refine (Put_i x H B hv base p c cap w hb h2 h3 h4 hx O C).mono fun v' w' h => ?_
  obtain ⟨E, rfl, C2⟩ := h
  refine ⟨(Gr.of E).mono fun k _ hk => (hF k).2 (.inr (.inl (Option.some.inj hk).symm)), by rw [List.length_append], c, hv, H, _, ?_, h2, ?_, h4, hp, hc, hx.keepC C E, O.keepC C E, C2, hF⟩
  · unfold putL; rw [List.length_append]; split <;> simp
  · split
    · simp; omega
    · omega
theorem HeadR_i {base p cap : Nat} {L : List (Int)} {F : Nat → Prop} {w : World} (hb : base ≤ w.heap.size) (h : PostR (Value.int .i64) 37 3 w base p cap L F) : Ret Try.prog 24 #[ptr p 0] w (fun v' w' => Gr w w' F ∧ v' = .tuple #[(Value.int .i64 (L.getD 0 0)), .bool (decide (0 < L.length))] ∧ ∃ F', PostR (Value.int .i64) 37 3 w' base p cap L F' ∧ NewF w.heap.size F F') := by
  obtain ⟨c, hv, H, B, rfl, h2, h3, h4, hp, hc, hx, O, C, hF⟩ := h
  refine (Head_i H B hv base p c cap w hb h2 h3 h4 hx O C).mono fun v' w' h => ?_
  obtain ⟨E, rfl, hv', H', B', hx', O', C', he, hl, hm, _⟩ := h
  obtain ⟨E', r⟩ := PostR.turn hF E hx' O' C' he hl (by simp; omega) h4 hp hc hm
  exact ⟨E', rfl, r⟩
theorem TakeR_i {base p cap : Nat} {L : List (Int)} {F : Nat → Prop} {w : World} (hb : base ≤ w.heap.size) (h : PostR (Value.int .i64) 37 3 w base p cap L F) : Ret Try.prog 25 #[ptr p 0] w (fun v' w' => Gr w w' F ∧ v' = .tuple #[(Value.int .i64 (L.getD 0 0)), .bool (decide (0 < L.length))] ∧ ∃ F', PostR (Value.int .i64) 37 3 w' base p cap (L.drop 1) F' ∧ NewF w.heap.size F F') := by
  obtain ⟨c, hv, H, B, rfl, h2, h3, h4, hp, hc, hx, O, C, hF⟩ := h
  refine (Take_i H B hv base p c cap w hb h2 h3 h4 hx O C).mono fun v' w' h => ?_
  obtain ⟨E, rfl, hv', H', B', hx', O', C', he, hl, hm, _⟩ := h
  obtain ⟨E', r⟩ := PostR.turn hF E hx' O' C' he hl (by simp; omega) h4 hp hc hm
  exact ⟨E', rfl, r⟩
theorem AllR_i {base p cap : Nat} {L : List (Int)} {F : Nat → Prop} {w : World} (hb : base ≤ w.heap.size) (h : PostR (Value.int .i64) 37 3 w base p cap L F) : Ret Try.prog 28 #[ptr p 0] w (fun v' w' => Gr w w' F ∧ Own w' w.heap.size 3 1 v' L.length (L.map (Value.int .i64)) ∧ PostR (Value.int .i64) 37 3 w' base p cap L F) := by
  obtain ⟨c, hv, H, B, rfl, h2, h3, h4, hp, hc, hx, O, C, hF⟩ := h
  refine (All_i H B hv base p c cap w hb h2 h3 h4 hx O C).mono fun v' w' h => ?_
  obtain ⟨E, O2, C2⟩ := h
  exact ⟨(Gr.of E).mono fun k _ hk => (hF k).2 (.inr (.inl (Option.some.inj hk).symm)), O2, c, hv, H, B, rfl, h2, h3, h4, hp, hc, hx.keepC C E, O.keepC C E, C2, hF⟩
end Go.Proofs.Ytmhdbphpmgjpcaa

/- Walks, written by a program: what each function of the translation hands back. -/
namespace Go.Proofs.Ytmhdbphpmgjpcaa
open Go.Gx Go.RowKit
attribute [local irreducible] wpList wpStill Code.wp Calls

theorem Copy_s (H B : List (List UInt8)) (hv : Value) (base p c cap : Nat) (w : World) (hbase : base ≤ w.heap.size) (hH : H.length ≤ 1) (hcap : H.length + B.length ≤ cap) (hcm : cap ≤ 1000) (hx : Bx w p 126 [.chan (some c), hv]) (O : Own w base 9 1 hv H.length (H.map sv)) (hC : ChC w c cap (B.map sv)) : Ret Try.prog 21 #[(ptr p 0)] w (fun v' w' => w.grownBy w' (some c) ∧ ChC w' c cap (B.map sv) ∧ ∃ (p2 : Nat) (F2 : Nat → Prop), v' = ptr p2 0 ∧ PostR sv 126 9 w' w.heap.size p2 cap (H ++ B) F2) := by
 have hi_p := hx.lt
 have hi_c := hC.lt
 have hlen : (H ++ B).length = H.length + B.length := List.length_append
 have hb := grown_refl w (some c)
 refine enter (N := 26) Try.func21 rfl rfl (by simp) fun a0 hN hd hA => ?_
 have s0 : a0.tmps.getD 0 undef = (ptr p 0) := hA 0 (by simp)
 clear hA
 refine seq_any fun K1 hK1 => ?_
 refine one_reg ?_
 refine op_assign rfl ?_
 refine reg_nil ?_
 refine hK1 _ _ ?_
 refine seq_any fun K2 hK2 => ?_
 refine seq_any fun K3 hK3 => ?_
 refine one_reg ?_
 refine op_move (ev_base hN rfl s0) ?_
 refine op_peq_some ptrt24 (ev_hit hN rfl) rfl ?_
 refine reg_nil ?_
 refine hK3 _ _ ?_
 refine wp_cond_false (ev_hit hN rfl) ?_
 refine wp_skip ?_
 refine hK2 _ _ ?_
 refine seq_any fun K4 hK4 => ?_
 refine one_reg ?_
 refine op_move (ev_base hN rfl s0) ?_
 refine op_nil (ev_hit hN rfl) ?_
 refine op_field fld126_0 (ev_hit hN rfl) ?_
 refine op_load1 (v := (Value.chan (some c))) one124 (ev_hit hN rfl) (hx.cell rfl) ?_
 refine op_cap_chan Try.underlying124 (ev_hit hN rfl) hC ?_
 refine op_fn (vs := [(Value.int .i64 ((cap : Nat) : Int))]) ok17 ⟨(ev_hit hN rfl), trivial⟩ (NewR_s ((cap : Nat) : Int) _ (by omega)) ?_
 rintro _ w6 ⟨E7, p5, F5, rfl, hp5⟩
 have lo_F5 : ∀ k, F5 k → w.heap.size ≤ k := fun k hk => (hp5.lt k hk).1
 have dj8 : ¬ F5 p := fun hf => by have := lo_F5 _ hf; have := hx.lt; omega
 have dj9 : Dj (Bl hv) F5 := Dj.fresh (fun k hk => (O.lt k hk).2) lo_F5
 have dj10 : ¬ F5 c := fun hf => by have := lo_F5 _ hf; have := hC.lt; omega
 have E7 := grown_of_below E7
 have z_w6 := E7.size
 have hx := hx.keep0 E7
 have O := O.keep0 E7
 have hC := hC.keep0 E7
 have hb := grow_step0 hb E7
 have hp5_c : (min (max ((cap : Nat) : Int) 0) 1000).toNat = cap := by omega
 rw [hp5_c] at hp5
 have hp5 : (PostR sv 126 9) w6 w.heap.size p5 cap [] F5 := hp5.mono (by omega)
 refine op_assign (ev_hit hN rfl) ?_
 refine reg_nil ?_
 refine hK4 _ _ ?_
 refine seq_any fun K11 hK11 => ?_
 refine seq_any fun K12 hK12 => ?_
 refine one_reg ?_
 refine op_move (ev_base hN rfl s0) ?_
 refine op_fn (vs := [(ptr p 0)]) ok22 ⟨(ev_hit hN rfl), trivial⟩ (All_s H B hv _ _ _ _ _ (by omega) (by first | assumption | (simp; done) | (simp; omega) | omega) (by first | assumption | (simp; done) | (simp; omega) | omega) (by first | assumption | (simp; done) | (simp; omega) | omega) hx O hC) ?_
 rintro v13 w14 ⟨E15, hO13, hC13⟩
 have dj16 : DJ v13 hv := fun k hk hg => by have q1 := (hO13.lt k hk).1; have q2 := (O.lt k hg).2; omega
 have dj17 : Dj F5 (Bl v13) := Dj.fresh (fun k hk => (hp5.lt k hk).2) (fun k hk => (hO13.lt k hk).1)
 have hO13_m := hO13.mono (base' := w.heap.size) (by omega)
 have hC_old := hC
 have z_w14 := E15.size
 have hx := hx.keepC hC_old E15
 have O := O.keepC hC_old E15
 have hp5 := hp5.keepG (Gr.of E15) (Dj.one dj10)
 have hb := grown_trans hb E15
 have hO13 := hO13_m
 refine op_len_rd Try.underlying26 (ev_hit hN rfl) hO13.rdw ?_
 refine op_move rfl ?_
 refine reg_nil ?_
 refine hK12 _ _ ?_
 refine wp_block ?_
 refine loop_m (fun mz_ az_ w' => ∃ (i : Nat), mz_ = (H ++ B).length - i ∧ (az_.tmps.getD 2 undef = (Value.pointer none)) ∧ (az_.tmps.getD 3 undef = (ptr p5 0)) ∧ (az_.tmps.getD 15 undef = v13) ∧ (az_.tmps.getD 16 undef = (Value.int .i64 (((H ++ B).length : Nat) : Int))) ∧ (az_.tmps.getD 17 undef = (Value.int .i64 ((i : Nat) : Int))) ∧ (i ≤ (H ++ B).length) ∧ (w.grownBy w' (some c)) ∧ (w14.heap.size ≤ w'.heap.size) ∧ (Bx w' p 126 [(Value.chan (some c)), hv]) ∧ (Own w' base 9 1 hv H.length (H.map sv)) ∧ (Own w' w.heap.size 9 1 v13 (H ++ B).length ((H ++ B).map sv)) ∧ (ChC w' c cap (B.map sv)) ∧ ((PostR sv 126 9) w' w.heap.size p5 cap ((H ++ B).take i) F5)) _ hN hd ⟨0, rfl, (sl_hit hN rfl), (sl_hit hN rfl), (sl_hit hN rfl), (sl_hit hN rfl), (sl_hit hN rfl), (Nat.zero_le _), hb, (Nat.le_refl _), hx, O, hO13, hC13, hp5⟩ ?_
 rintro _ a18 w18 hN18 hd18 ⟨i, rfl, s18_2, s18_3, s18_15, s18_16, s18_17, hi, hb, zl_w18, hx, O, hO13, hC13, hp9⟩
 have z_w18 := hb.size
 refine seq_any fun K19 hK19 => ?_
 refine one_reg ?_
 refine op_lss (ev_base hN18 rfl s18_17) (ev_base hN18 rfl s18_16) (fun c18 => ?_) (fun c18 => ?_)
 · -- 18T
  refine reg_nil ?_
  refine hK19 _ _ ?_
  refine seq_any fun K20 hK20 => ?_
  refine wp_cond_true (ev_hit hN18 rfl) ?_
  refine wp_skip ?_
  refine hK20 _ _ ?_
  refine seq_any fun K21 hK21 => ?_
  refine wp_block ?_
  refine seq_any fun K22 hK22 => ?_
  refine one_reg ?_
  refine op_index_rd slt26 (ev_base hN18 rfl s18_15) hO13.rdw (ev_base hN18 rfl s18_17) (by omega) (by omega) ?_
  intro b23 o24 h0b23 h1b23 hc25
  refine op_load1 (v := (Value.string (bs ((H ++ B).getD i [])))) one9 (ev_hit hN18 rfl) (by have := hc25 0 (Value.string (bs ((H ++ B).getD i []))) (by decide) (el_sv (i := i) (by omega) (by omega)); simpa using this) ?_
  refine op_assign (ev_hit hN18 rfl) ?_
  refine reg_nil ?_
  refine hK22 _ _ ?_
  refine one_reg ?_
  refine op_move (ev_base hN18 rfl s18_3) ?_
  refine op_move (ev_hit hN18 rfl) ?_
  refine op_fn (vs := [(ptr p5 0), (Value.string (bs ((H ++ B).getD i [])))]) ok18 ⟨(ev_hit hN18 rfl), ⟨(ev_hit hN18 rfl), trivial⟩⟩ (PutR_s ((H ++ B).getD i []) (by omega) hp9) ?_
  rintro _ w27 ⟨E28, rfl, hp26⟩
  have hp9_old := hp9
  have z_w27 := E28.size
  have hx := hx.keepG E28 dj8
  have O := O.keepG E28 dj9
  have hO13 := hO13.keepG E28 dj17.symm
  have hC13 := hC13.keepG E28 dj10
  have hb := grow_stepN hb E28 (fun k hk => (hp9_old.lt k hk).1)
  refine reg_nil ?_
  refine hK21 _ _ ?_
  refine one_reg ?_
  refine op_add (ev_base hN18 rfl s18_17) rfl (add64 (by omega)) ?_
  refine op_move (ev_hit hN18 rfl) ?_
  refine reg_nil ?_
  -- round 18T
  exact loop_next _ hN18 hd18 ⟨(i + 1), rfl, (sl_base hN18 rfl s18_2), (sl_base hN18 rfl s18_3), (sl_base hN18 rfl s18_15), (sl_base hN18 rfl s18_16), (sl_hit hN18 rfl).trans (congrArg (Value.int .i64) (by omega)), (by omega), hb, (by omega), hx, O, hO13, hC13, (by rw [← putL_take (d := []) (cap := cap) (by simp; omega) (by simp; omega)]; exact hp26)⟩ (by omega)
 · -- 18F
  refine reg_nil ?_
  refine hK19 _ _ ?_
  refine seq_any fun K29 hK29 => ?_
  refine wp_cond_false (ev_hit hN18 rfl) ?_
  refine wp_exit (then_exit (then_exit (blk_hit ?_)))
  refine hK11 _ _ ?_
  refine seq_any fun K30 hK30 => ?_
  refine one_reg ?_
  refine op_move (ev_base hN18 rfl s18_3) ?_
  refine op_assign (ev_hit hN18 rfl) ?_
  refine reg_nil ?_
  refine hK30 _ _ ?_
  refine wp_ret ?_
  refine ret1 rfl hd18 (ev_hit hN18 rfl) ⟨_, rfl, ?_⟩
  -- path 18F
  have hi9 : i = (H ++ B).length := by omega
  rw [hi9, List.take_length] at hp9
  exact ⟨hb, hC13, p5, F5, rfl, hp9⟩

theorem Copy_i (H B : List Int) (hv : Value) (base p c cap : Nat) (w : World) (hbase : base ≤ w.heap.size) (hH : H.length ≤ 1) (hcap : H.length + B.length ≤ cap) (hcm : cap ≤ 1000) (hx : Bx w p 37 [.chan (some c), hv]) (O : Own w base 3 1 hv H.length (H.map (Value.int .i64))) (hC : ChC w c cap (B.map (Value.int .i64))) : Ret Try.prog 29 #[(ptr p 0)] w (fun v' w' => w.grownBy w' (some c) ∧ ChC w' c cap (B.map (Value.int .i64)) ∧ ∃ (p2 : Nat) (F2 : Nat → Prop), v' = ptr p2 0 ∧ PostR (Value.int .i64) 37 3 w' w.heap.size p2 cap (H ++ B) F2) := by
 have hi_p := hx.lt
 have hi_c := hC.lt
 have hlen : (H ++ B).length = H.length + B.length := List.length_append
 have hb := grown_refl w (some c)
 refine enter (N := 26) Try.func29 rfl rfl (by simp) fun a0 hN hd hA => ?_
 have s0 : a0.tmps.getD 0 undef = (ptr p 0) := hA 0 (by simp)
 clear hA
 refine seq_any fun K31 hK31 => ?_
 refine one_reg ?_
 refine op_assign rfl ?_
 refine reg_nil ?_
 refine hK31 _ _ ?_
 refine seq_any fun K32 hK32 => ?_
 refine seq_any fun K33 hK33 => ?_
 refine one_reg ?_
 refine op_move (ev_base hN rfl s0) ?_
 refine op_peq_some ptrt33 (ev_hit hN rfl) rfl ?_
 refine reg_nil ?_
 refine hK33 _ _ ?_
 refine wp_cond_false (ev_hit hN rfl) ?_
 refine wp_skip ?_
 refine hK32 _ _ ?_
 refine seq_any fun K34 hK34 => ?_
 refine one_reg ?_
 refine op_move (ev_base hN rfl s0) ?_
 refine op_nil (ev_hit hN rfl) ?_
 refine op_field fld37_0 (ev_hit hN rfl) ?_
 refine op_load1 (v := (Value.chan (some c))) one34 (ev_hit hN rfl) (hx.cell rfl) ?_
 refine op_cap_chan Try.underlying34 (ev_hit hN rfl) hC ?_
 refine op_fn (vs := [(Value.int .i64 ((cap : Nat) : Int))]) ok71 ⟨(ev_hit hN rfl), trivial⟩ (NewR_i ((cap : Nat) : Int) _ (by omega)) ?_
 rintro _ w36 ⟨E37, p35, F35, rfl, hp35⟩
 have lo_F35 : ∀ k, F35 k → w.heap.size ≤ k := fun k hk => (hp35.lt k hk).1
 have dj38 : ¬ F35 p := fun hf => by have := lo_F35 _ hf; have := hx.lt; omega
 have dj39 : Dj (Bl hv) F35 := Dj.fresh (fun k hk => (O.lt k hk).2) lo_F35
 have dj40 : ¬ F35 c := fun hf => by have := lo_F35 _ hf; have := hC.lt; omega
 have E37 := grown_of_below E37
 have z_w36 := E37.size
 have hx := hx.keep0 E37
 have O := O.keep0 E37
 have hC := hC.keep0 E37
 have hb := grow_step0 hb E37
 have hp35_c : (min (max ((cap : Nat) : Int) 0) 1000).toNat = cap := by omega
 rw [hp35_c] at hp35
 have hp35 : (PostR (Value.int .i64) 37 3) w36 w.heap.size p35 cap [] F35 := hp35.mono (by omega)
 refine op_assign (ev_hit hN rfl) ?_
 refine reg_nil ?_
 refine hK34 _ _ ?_
 refine seq_any fun K41 hK41 => ?_
 refine seq_any fun K42 hK42 => ?_
 refine one_reg ?_
 refine op_move (ev_base hN rfl s0) ?_
 refine op_fn (vs := [(ptr p 0)]) ok28 ⟨(ev_hit hN rfl), trivial⟩ (All_i H B hv _ _ _ _ _ (by omega) (by first | assumption | (simp; done) | (simp; omega) | omega) (by first | assumption | (simp; done) | (simp; omega) | omega) (by first | assumption | (simp; done) | (simp; omega) | omega) hx O hC) ?_
 rintro v43 w44 ⟨E45, hO43, hC43⟩
 have dj46 : DJ v43 hv := fun k hk hg => by have q1 := (hO43.lt k hk).1; have q2 := (O.lt k hg).2; omega
 have dj47 : Dj F35 (Bl v43) := Dj.fresh (fun k hk => (hp35.lt k hk).2) (fun k hk => (hO43.lt k hk).1)
 have hO43_m := hO43.mono (base' := w.heap.size) (by omega)
 have hC_old := hC
 have z_w44 := E45.size
 have hx := hx.keepC hC_old E45
 have O := O.keepC hC_old E45
 have hp35 := hp35.keepG (Gr.of E45) (Dj.one dj40)
 have hb := grown_trans hb E45
 have hO43 := hO43_m
 refine op_len_rd Try.underlying35 (ev_hit hN rfl) hO43.rdw ?_
 refine op_move rfl ?_
 refine reg_nil ?_
 refine hK42 _ _ ?_
 refine wp_block ?_
 refine loop_m (fun mz_ az_ w' => ∃ (i : Nat), mz_ = (H ++ B).length - i ∧ (az_.tmps.getD 2 undef = (Value.pointer none)) ∧ (az_.tmps.getD 3 undef = (ptr p35 0)) ∧ (az_.tmps.getD 15 undef = v43) ∧ (az_.tmps.getD 16 undef = (Value.int .i64 (((H ++ B).length : Nat) : Int))) ∧ (az_.tmps.getD 17 undef = (Value.int .i64 ((i : Nat) : Int))) ∧ (i ≤ (H ++ B).length) ∧ (w.grownBy w' (some c)) ∧ (w44.heap.size ≤ w'.heap.size) ∧ (Bx w' p 37 [(Value.chan (some c)), hv]) ∧ (Own w' base 3 1 hv H.length (H.map (Value.int .i64))) ∧ (Own w' w.heap.size 3 1 v43 (H ++ B).length ((H ++ B).map (Value.int .i64))) ∧ (ChC w' c cap (B.map (Value.int .i64))) ∧ ((PostR (Value.int .i64) 37 3) w' w.heap.size p35 cap ((H ++ B).take i) F35)) _ hN hd ⟨0, rfl, (sl_hit hN rfl), (sl_hit hN rfl), (sl_hit hN rfl), (sl_hit hN rfl), (sl_hit hN rfl), (Nat.zero_le _), hb, (Nat.le_refl _), hx, O, hO43, hC43, hp35⟩ ?_
 rintro _ a48 w48 hN48 hd48 ⟨i, rfl, s48_2, s48_3, s48_15, s48_16, s48_17, hi, hb, zl_w48, hx, O, hO43, hC43, hp9⟩
 have z_w48 := hb.size
 refine seq_any fun K49 hK49 => ?_
 refine one_reg ?_
 refine op_lss (ev_base hN48 rfl s48_17) (ev_base hN48 rfl s48_16) (fun c18 => ?_) (fun c18 => ?_)
 · -- 18T
  refine reg_nil ?_
  refine hK49 _ _ ?_
  refine seq_any fun K50 hK50 => ?_
  refine wp_cond_true (ev_hit hN48 rfl) ?_
  refine wp_skip ?_
  refine hK50 _ _ ?_
  refine seq_any fun K51 hK51 => ?_
  refine wp_block ?_
  refine seq_any fun K52 hK52 => ?_
  refine one_reg ?_
  refine op_index_rd slt35 (ev_base hN48 rfl s48_15) hO43.rdw (ev_base hN48 rfl s48_17) (by omega) (by omega) ?_
  intro b53 o54 h0b53 h1b53 hc55
  refine op_load1 (v := (Value.int .i64 ((H ++ B).getD i 0))) one3 (ev_hit hN48 rfl) (by have := hc55 0 (Value.int .i64 ((H ++ B).getD i 0)) (by decide) (el_i64 (i := i) (by omega) (by omega)); simpa using this) ?_
  refine op_assign (ev_hit hN48 rfl) ?_
  refine reg_nil ?_
  refine hK52 _ _ ?_
  refine one_reg ?_
  refine op_move (ev_base hN48 rfl s48_3) ?_
  refine op_move (ev_hit hN48 rfl) ?_
  refine op_fn (vs := [(ptr p35 0), (Value.int .i64 ((H ++ B).getD i 0))]) ok26 ⟨(ev_hit hN48 rfl), ⟨(ev_hit hN48 rfl), trivial⟩⟩ (PutR_i ((H ++ B).getD i 0) (by omega) hp9) ?_
  rintro _ w57 ⟨E58, rfl, hp56⟩
  have hp9_old := hp9
  have z_w57 := E58.size
  have hx := hx.keepG E58 dj38
  have O := O.keepG E58 dj39
  have hO43 := hO43.keepG E58 dj47.symm
  have hC43 := hC43.keepG E58 dj40
  have hb := grow_stepN hb E58 (fun k hk => (hp9_old.lt k hk).1)
  refine reg_nil ?_
  refine hK51 _ _ ?_
  refine one_reg ?_
  refine op_add (ev_base hN48 rfl s48_17) rfl (add64 (by omega)) ?_
  refine op_move (ev_hit hN48 rfl) ?_
  refine reg_nil ?_
  -- round 18T
  exact loop_next _ hN48 hd48 ⟨(i + 1), rfl, (sl_base hN48 rfl s48_2), (sl_base hN48 rfl s48_3), (sl_base hN48 rfl s48_15), (sl_base hN48 rfl s48_16), (sl_hit hN48 rfl).trans (congrArg (Value.int .i64) (by omega)), (by omega), hb, (by omega), hx, O, hO43, hC43, (by rw [← putL_take (d := 0) (cap := cap) (by simp; omega) (by simp; omega)]; exact hp56)⟩ (by omega)
 · -- 18F
  refine reg_nil ?_
  refine hK49 _ _ ?_
  refine seq_any fun K59 hK59 => ?_
  refine wp_cond_false (ev_hit hN48 rfl) ?_
  refine wp_exit (then_exit (then_exit (blk_hit ?_)))
  refine hK41 _ _ ?_
  refine seq_any fun K60 hK60 => ?_
  refine one_reg ?_
  refine op_move (ev_base hN48 rfl s48_3) ?_
  refine op_assign (ev_hit hN48 rfl) ?_
  refine reg_nil ?_
  refine hK60 _ _ ?_
  refine wp_ret ?_
  refine ret1 rfl hd48 (ev_hit hN48 rfl) ⟨_, rfl, ?_⟩
  -- path 18F
  have hi9 : i = (H ++ B).length := by omega
  rw [hi9, List.take_length] at hp9
  exact ⟨hb, hC43, p35, F35, rfl, hp9⟩

end Go.Proofs.Ytmhdbphpmgjpcaa

/- Posts as objects: copies. -/
namespace Go.Proofs.Ytmhdbphpmgjpcaa
open Go.Gx Go.RowKit

theorem CopyR_s {base p cap : Nat} {L : List (List UInt8)} {F : Nat → Prop} {w : World} (hb : base ≤ w.heap.size) (h : PostR sv 126 9 w base p cap L F) : Ret Try.prog 21 #[ptr p 0] w (fun v' w' => Gr w w' F ∧ ∃ (p2 : Nat) (F2 : Nat → Prop), v' = ptr p2 0 ∧ PostR sv 126 9 w' w.heap.size p2 cap L F2 ∧ PostR sv 126 9 w' base p cap L F) := by
  obtain ⟨c, hv, H, B, rfl, h2, h3, h4, hp, hc, hx, O, C, hF⟩ := h
  refine (Copy_s H B hv base p c cap w hb h2 h3 h4 hx O C).mono fun v' w' h => ?_
  obtain ⟨E, C2, p2, F2, rfl, hr⟩ := h
  exact ⟨(Gr.of E).mono fun k _ hk => (hF k).2 (.inr (.inl (Option.some.inj hk).symm)), p2, F2, rfl, hr, c, hv, H, B, rfl, h2, h3, h4, hp, hc, hx.keepC C E, O.keepC C E, C2, hF⟩

theorem CopyR_i {base p cap : Nat} {L : List (Int)} {F : Nat → Prop} {w : World} (hb : base ≤ w.heap.size) (h : PostR (Value.int .i64) 37 3 w base p cap L F) : Ret Try.prog 29 #[ptr p 0] w (fun v' w' => Gr w w' F ∧ ∃ (p2 : Nat) (F2 : Nat → Prop), v' = ptr p2 0 ∧ PostR (Value.int .i64) 37 3 w' w.heap.size p2 cap L F2 ∧ PostR (Value.int .i64) 37 3 w' base p cap L F) := by
  obtain ⟨c, hv, H, B, rfl, h2, h3, h4, hp, hc, hx, O, C, hF⟩ := h
  refine (Copy_i H B hv base p c cap w hb h2 h3 h4 hx O C).mono fun v' w' h => ?_
  obtain ⟨E, C2, p2, F2, rfl, hr⟩ := h
  exact ⟨(Gr.of E).mono fun k _ hk => (hF k).2 (.inr (.inl (Option.some.inj hk).symm)), p2, F2, rfl, hr, c, hv, H, B, rfl, h2, h3, h4, hp, hc, hx.keepC C E, O.keepC C E, C2, hF⟩
end Go.Proofs.Ytmhdbphpmgjpcaa
