/- Closed facts on the types and functions of the translation, laid by a program. -/
import Derived.Test.YtkkongnmcfdioaaProg
import Derived.Test.YtkkongnmcfdioaaLib14
import Derived.KernelRfl
namespace Go.Proofs.Ytkkongnmcfdioaa
open Go.Gx

theorem us1 : (Try.prog.underlying 1).isSome = true := by kernel_rfl
theorem one1 : oneT Try.prog 1 = true := by kernel_rfl
theorem size1 : (Try.prog.info? 1).map (·.size) = some 1 := by kernel_rfl
theorem us2 : (Try.prog.underlying 2).isSome = true := by kernel_rfl
theorem one2 : oneT Try.prog 2 = true := by kernel_rfl
theorem size2 : (Try.prog.info? 2).map (·.size) = some 1 := by kernel_rfl
theorem zero2 : zeroT Try.prog 2 = some (Value.int .i64 0) := by kernel_rfl
theorem us3 : (Try.prog.underlying 3).isSome = true := by kernel_rfl
theorem one3 : oneT Try.prog 3 = true := by kernel_rfl
theorem size3 : (Try.prog.info? 3).map (·.size) = some 1 := by kernel_rfl
theorem zero3 : zeroT Try.prog 3 = some (Value.int .i64 0) := by kernel_rfl
theorem us4 : (Try.prog.underlying 4).isSome = true := by kernel_rfl
theorem one4 : oneT Try.prog 4 = true := by kernel_rfl
theorem size4 : (Try.prog.info? 4).map (·.size) = some 1 := by kernel_rfl
theorem zero4 : zeroT Try.prog 4 = some (Value.bool false) := by kernel_rfl
theorem us5 : (Try.prog.underlying 5).isSome = true := by kernel_rfl
theorem one5 : oneT Try.prog 5 = true := by kernel_rfl
theorem size5 : (Try.prog.info? 5).map (·.size) = some 1 := by kernel_rfl
theorem zero5 : zeroT Try.prog 5 = some (Value.int .u8 0) := by kernel_rfl
theorem us6 : (Try.prog.underlying 6).isSome = true := by kernel_rfl
theorem one6 : oneT Try.prog 6 = true := by kernel_rfl
theorem size6 : (Try.prog.info? 6).map (·.size) = some 1 := by kernel_rfl
theorem zero6 : zeroT Try.prog 6 = some (Value.int .u8 0) := by kernel_rfl
theorem us7 : (Try.prog.underlying 7).isSome = true := by kernel_rfl
theorem agg7 : aggT Try.prog 7 = some 4 := by kernel_rfl
theorem fld7_0 : fieldT Try.prog 7 0 = some 0 := by kernel_rfl
theorem fld7_1 : fieldT Try.prog 7 1 = some 1 := by kernel_rfl
theorem fld7_2 : fieldT Try.prog 7 2 = some 2 := by kernel_rfl
theorem fld7_3 : fieldT Try.prog 7 3 = some 3 := by kernel_rfl
theorem size7 : (Try.prog.info? 7).map (·.size) = some 4 := by kernel_rfl
theorem zero7 : zeroT Try.prog 7 = some (Value.agg #[(Value.int .i64 0), (Value.int .i64 0), (Value.bool false), (Value.int .u8 0)]) := by kernel_rfl
theorem us8 : (Try.prog.underlying 8).isSome = true := by kernel_rfl
theorem agg8 : aggT Try.prog 8 = some 4 := by kernel_rfl
theorem fld8_0 : fieldT Try.prog 8 0 = some 0 := by kernel_rfl
theorem fld8_1 : fieldT Try.prog 8 1 = some 1 := by kernel_rfl
theorem fld8_2 : fieldT Try.prog 8 2 = some 2 := by kernel_rfl
theorem fld8_3 : fieldT Try.prog 8 3 = some 3 := by kernel_rfl
theorem size8 : (Try.prog.info? 8).map (·.size) = some 4 := by kernel_rfl
theorem zero8 : zeroT Try.prog 8 = some (Value.agg #[(Value.int .i64 0), (Value.int .i64 0), (Value.bool false), (Value.int .u8 0)]) := by kernel_rfl
theorem us9 : (Try.prog.underlying 9).isSome = true := by kernel_rfl
theorem one9 : oneT Try.prog 9 = true := by kernel_rfl
theorem size9 : (Try.prog.info? 9).map (·.size) = some 1 := by kernel_rfl
theorem zero9 : zeroT Try.prog 9 = some (Value.string (bs [])) := by kernel_rfl
theorem us10 : (Try.prog.underlying 10).isSome = true := by kernel_rfl
theorem one10 : oneT Try.prog 10 = true := by kernel_rfl
theorem size10 : (Try.prog.info? 10).map (·.size) = some 1 := by kernel_rfl
theorem zero10 : zeroT Try.prog 10 = some (Value.string (bs [])) := by kernel_rfl
theorem us11 : (Try.prog.underlying 11).isSome = true := by kernel_rfl
theorem one11 : oneT Try.prog 11 = true := by kernel_rfl
theorem size11 : (Try.prog.info? 11).map (·.size) = some 1 := by kernel_rfl
theorem zero11 : zeroT Try.prog 11 = some (Value.string (bs [])) := by kernel_rfl
theorem us12 : (Try.prog.underlying 12).isSome = true := by kernel_rfl
theorem one12 : oneT Try.prog 12 = true := by kernel_rfl
theorem size12 : (Try.prog.info? 12).map (·.size) = some 1 := by kernel_rfl
theorem zero12 : zeroT Try.prog 12 = some (Value.int .u64 0) := by kernel_rfl
theorem us13 : (Try.prog.underlying 13).isSome = true := by kernel_rfl
theorem agg13 : aggT Try.prog 13 = some 2 := by kernel_rfl
theorem fld13_0 : fieldT Try.prog 13 0 = some 0 := by kernel_rfl
theorem fld13_1 : fieldT Try.prog 13 1 = some 1 := by kernel_rfl
theorem size13 : (Try.prog.info? 13).map (·.size) = some 2 := by kernel_rfl
theorem zero13 : zeroT Try.prog 13 = some (Value.agg #[(Value.string (bs [])), (Value.int .u64 0)]) := by kernel_rfl
theorem us14 : (Try.prog.underlying 14).isSome = true := by kernel_rfl
theorem agg14 : aggT Try.prog 14 = some 2 := by kernel_rfl
theorem fld14_0 : fieldT Try.prog 14 0 = some 0 := by kernel_rfl
theorem fld14_1 : fieldT Try.prog 14 1 = some 1 := by kernel_rfl
theorem size14 : (Try.prog.info? 14).map (·.size) = some 2 := by kernel_rfl
theorem zero14 : zeroT Try.prog 14 = some (Value.agg #[(Value.string (bs [])), (Value.int .u64 0)]) := by kernel_rfl
theorem us15 : (Try.prog.underlying 15).isSome = true := by kernel_rfl
theorem one15 : oneT Try.prog 15 = true := by kernel_rfl
theorem size15 : (Try.prog.info? 15).map (·.size) = some 1 := by kernel_rfl
theorem zero15 : zeroT Try.prog 15 = some (Value.pointer none) := by kernel_rfl
theorem us16 : (Try.prog.underlying 16).isSome = true := by kernel_rfl
theorem one16 : oneT Try.prog 16 = true := by kernel_rfl
theorem size16 : (Try.prog.info? 16).map (·.size) = some 1 := by kernel_rfl
theorem zero16 : zeroT Try.prog 16 = some (Value.pointer none) := by kernel_rfl
theorem us17 : (Try.prog.underlying 17).isSome = true := by kernel_rfl
theorem one17 : oneT Try.prog 17 = true := by kernel_rfl
theorem size17 : (Try.prog.info? 17).map (·.size) = some 1 := by kernel_rfl
theorem zero17 : zeroT Try.prog 17 = some (Value.pointer none) := by kernel_rfl
theorem us18 : (Try.prog.underlying 18).isSome = true := by kernel_rfl
theorem agg18 : aggT Try.prog 18 = some 1 := by kernel_rfl
theorem fld18_0 : fieldT Try.prog 18 0 = some 0 := by kernel_rfl
theorem size18 : (Try.prog.info? 18).map (·.size) = some 1 := by kernel_rfl
theorem zero18 : zeroT Try.prog 18 = some (Value.agg #[(Value.pointer none)]) := by kernel_rfl
theorem us19 : (Try.prog.underlying 19).isSome = true := by kernel_rfl
theorem agg19 : aggT Try.prog 19 = some 1 := by kernel_rfl
theorem fld19_0 : fieldT Try.prog 19 0 = some 0 := by kernel_rfl
theorem size19 : (Try.prog.info? 19).map (·.size) = some 1 := by kernel_rfl
theorem zero19 : zeroT Try.prog 19 = some (Value.agg #[(Value.pointer none)]) := by kernel_rfl
theorem us21 : (Try.prog.underlying 21).isSome = true := by kernel_rfl
theorem one21 : oneT Try.prog 21 = true := by kernel_rfl
theorem size21 : (Try.prog.info? 21).map (·.size) = some 1 := by kernel_rfl
theorem zero21 : zeroT Try.prog 21 = some (Value.int .i32 0) := by kernel_rfl
theorem us22 : (Try.prog.underlying 22).isSome = true := by kernel_rfl
theorem one22 : oneT Try.prog 22 = true := by kernel_rfl
theorem slt22 : SlT Try.prog 22 5 (Value.int .u8 0) 1 1 := ⟨Try.underlying22, by kernel_rfl, rfl, by decide⟩
theorem size22 : (Try.prog.info? 22).map (·.size) = some 1 := by kernel_rfl
theorem zero22 : zeroT Try.prog 22 = some (Value.slice none 0 0) := by kernel_rfl
theorem us23 : (Try.prog.underlying 23).isSome = true := by kernel_rfl
theorem one23 : oneT Try.prog 23 = true := by kernel_rfl
theorem size23 : (Try.prog.info? 23).map (·.size) = some 1 := by kernel_rfl
theorem us24 : (Try.prog.underlying 24).isSome = true := by kernel_rfl
theorem one24 : oneT Try.prog 24 = true := by kernel_rfl
theorem size24 : (Try.prog.info? 24).map (·.size) = some 1 := by kernel_rfl
theorem zero24 : zeroT Try.prog 24 = some (Value.pointer none) := by kernel_rfl
theorem us25 : (Try.prog.underlying 25).isSome = true := by kernel_rfl
theorem one25 : oneT Try.prog 25 = true := by kernel_rfl
theorem size25 : (Try.prog.info? 25).map (·.size) = some 1 := by kernel_rfl
theorem us26 : (Try.prog.underlying 26).isSome = true := by kernel_rfl
theorem one26 : oneT Try.prog 26 = true := by kernel_rfl
theorem slt26 : SlT Try.prog 26 9 (Value.string (bs [])) 1 16 := ⟨Try.underlying26, by kernel_rfl, rfl, by decide⟩
theorem size26 : (Try.prog.info? 26).map (·.size) = some 1 := by kernel_rfl
theorem zero26 : zeroT Try.prog 26 = some (Value.slice none 0 0) := by kernel_rfl
theorem us27 : (Try.prog.underlying 27).isSome = true := by kernel_rfl
theorem one27 : oneT Try.prog 27 = true := by kernel_rfl
theorem size27 : (Try.prog.info? 27).map (·.size) = some 1 := by kernel_rfl
theorem us29 : (Try.prog.underlying 29).isSome = true := by kernel_rfl
theorem one29 : oneT Try.prog 29 = true := by kernel_rfl
theorem size29 : (Try.prog.info? 29).map (·.size) = some 1 := by kernel_rfl
theorem us30 : (Try.prog.underlying 30).isSome = true := by kernel_rfl
theorem one30 : oneT Try.prog 30 = true := by kernel_rfl
theorem size30 : (Try.prog.info? 30).map (·.size) = some 1 := by kernel_rfl
theorem us31 : (Try.prog.underlying 31).isSome = true := by kernel_rfl
theorem one31 : oneT Try.prog 31 = true := by kernel_rfl
theorem size31 : (Try.prog.info? 31).map (·.size) = some 1 := by kernel_rfl
theorem us32 : (Try.prog.underlying 32).isSome = true := by kernel_rfl
theorem one32 : oneT Try.prog 32 = true := by kernel_rfl
theorem size32 : (Try.prog.info? 32).map (·.size) = some 1 := by kernel_rfl
theorem us33 : (Try.prog.underlying 33).isSome = true := by kernel_rfl
theorem one33 : oneT Try.prog 33 = true := by kernel_rfl
theorem size33 : (Try.prog.info? 33).map (·.size) = some 1 := by kernel_rfl
theorem zero33 : zeroT Try.prog 33 = some (Value.pointer none) := by kernel_rfl
theorem us34 : (Try.prog.underlying 34).isSome = true := by kernel_rfl
theorem one34 : oneT Try.prog 34 = true := by kernel_rfl
theorem size34 : (Try.prog.info? 34).map (·.size) = some 1 := by kernel_rfl
theorem zero34 : zeroT Try.prog 34 = some (Value.chan none) := by kernel_rfl
theorem us35 : (Try.prog.underlying 35).isSome = true := by kernel_rfl
theorem one35 : oneT Try.prog 35 = true := by kernel_rfl
theorem slt35 : SlT Try.prog 35 3 (Value.int .i64 0) 1 8 := ⟨Try.underlying35, by kernel_rfl, rfl, by decide⟩
theorem size35 : (Try.prog.info? 35).map (·.size) = some 1 := by kernel_rfl
theorem zero35 : zeroT Try.prog 35 = some (Value.slice none 0 0) := by kernel_rfl
theorem us36 : (Try.prog.underlying 36).isSome = true := by kernel_rfl
theorem agg36 : aggT Try.prog 36 = some 2 := by kernel_rfl
theorem fld36_0 : fieldT Try.prog 36 0 = some 0 := by kernel_rfl
theorem fld36_1 : fieldT Try.prog 36 1 = some 1 := by kernel_rfl
theorem size36 : (Try.prog.info? 36).map (·.size) = some 2 := by kernel_rfl
theorem zero36 : zeroT Try.prog 36 = some (Value.agg #[(Value.chan none), (Value.slice none 0 0)]) := by kernel_rfl
theorem us37 : (Try.prog.underlying 37).isSome = true := by kernel_rfl
theorem agg37 : aggT Try.prog 37 = some 2 := by kernel_rfl
theorem fld37_0 : fieldT Try.prog 37 0 = some 0 := by kernel_rfl
theorem fld37_1 : fieldT Try.prog 37 1 = some 1 := by kernel_rfl
theorem size37 : (Try.prog.info? 37).map (·.size) = some 2 := by kernel_rfl
theorem zero37 : zeroT Try.prog 37 = some (Value.agg #[(Value.chan none), (Value.slice none 0 0)]) := by kernel_rfl
theorem us39 : (Try.prog.underlying 39).isSome = true := by kernel_rfl
theorem one39 : oneT Try.prog 39 = true := by kernel_rfl
theorem size39 : (Try.prog.info? 39).map (·.size) = some 1 := by kernel_rfl
theorem us40 : (Try.prog.underlying 40).isSome = true := by kernel_rfl
theorem one40 : oneT Try.prog 40 = true := by kernel_rfl
theorem size40 : (Try.prog.info? 40).map (·.size) = some 1 := by kernel_rfl
theorem us41 : (Try.prog.underlying 41).isSome = true := by kernel_rfl
theorem one41 : oneT Try.prog 41 = true := by kernel_rfl
theorem size41 : (Try.prog.info? 41).map (·.size) = some 1 := by kernel_rfl
theorem us42 : (Try.prog.underlying 42).isSome = true := by kernel_rfl
theorem one42 : oneT Try.prog 42 = true := by kernel_rfl
theorem size42 : (Try.prog.info? 42).map (·.size) = some 1 := by kernel_rfl
theorem us43 : (Try.prog.underlying 43).isSome = true := by kernel_rfl
theorem one43 : oneT Try.prog 43 = true := by kernel_rfl
theorem size43 : (Try.prog.info? 43).map (·.size) = some 1 := by kernel_rfl
theorem us44 : (Try.prog.underlying 44).isSome = true := by kernel_rfl
theorem one44 : oneT Try.prog 44 = true := by kernel_rfl
theorem slt44 : SlT Try.prog 44 45 (Value.slice none 0 0) 1 24 := ⟨Try.underlying44, by kernel_rfl, rfl, by decide⟩
theorem size44 : (Try.prog.info? 44).map (·.size) = some 1 := by kernel_rfl
theorem zero44 : zeroT Try.prog 44 = some (Value.slice none 0 0) := by kernel_rfl
theorem us45 : (Try.prog.underlying 45).isSome = true := by kernel_rfl
theorem one45 : oneT Try.prog 45 = true := by kernel_rfl
theorem slt45 : SlT Try.prog 45 46 (Value.int .u16 0) 1 2 := ⟨Try.underlying45, by kernel_rfl, rfl, by decide⟩
theorem size45 : (Try.prog.info? 45).map (·.size) = some 1 := by kernel_rfl
theorem zero45 : zeroT Try.prog 45 = some (Value.slice none 0 0) := by kernel_rfl
theorem us46 : (Try.prog.underlying 46).isSome = true := by kernel_rfl
theorem one46 : oneT Try.prog 46 = true := by kernel_rfl
theorem size46 : (Try.prog.info? 46).map (·.size) = some 1 := by kernel_rfl
theorem zero46 : zeroT Try.prog 46 = some (Value.int .u16 0) := by kernel_rfl
theorem us47 : (Try.prog.underlying 47).isSome = true := by kernel_rfl
theorem one47 : oneT Try.prog 47 = true := by kernel_rfl
theorem size47 : (Try.prog.info? 47).map (·.size) = some 1 := by kernel_rfl
theorem us48 : (Try.prog.underlying 48).isSome = true := by kernel_rfl
theorem one48 : oneT Try.prog 48 = true := by kernel_rfl
theorem size48 : (Try.prog.info? 48).map (·.size) = some 1 := by kernel_rfl
theorem us49 : (Try.prog.underlying 49).isSome = true := by kernel_rfl
theorem agg49 : aggT Try.prog 49 = some 3 := by kernel_rfl
theorem fld49_0 : fieldT Try.prog 49 0 = some 0 := by kernel_rfl
theorem fld49_1 : fieldT Try.prog 49 1 = some 1 := by kernel_rfl
theorem fld49_2 : fieldT Try.prog 49 2 = some 2 := by kernel_rfl
theorem size49 : (Try.prog.info? 49).map (·.size) = some 3 := by kernel_rfl
theorem zero49 : zeroT Try.prog 49 = some (Value.agg #[(Value.int .i64 0), (Value.int .i64 0), (Value.string (bs []))]) := by kernel_rfl
theorem us50 : (Try.prog.underlying 50).isSome = true := by kernel_rfl
theorem agg50 : aggT Try.prog 50 = some 3 := by kernel_rfl
theorem fld50_0 : fieldT Try.prog 50 0 = some 0 := by kernel_rfl
theorem fld50_1 : fieldT Try.prog 50 1 = some 1 := by kernel_rfl
theorem fld50_2 : fieldT Try.prog 50 2 = some 2 := by kernel_rfl
theorem eq50 (a0 b0 : Int) (a1 b1 : Int) (a2 b2 : List UInt8) : EqA Try.prog 50 [.int .i64 a0, .int .i64 a1, .string (bs a2)] [.int .i64 b0, .int .i64 b1, .string (bs b2)] (decide (a0 = b0 ∧ a1 = b1 ∧ a2 = b2)) := by
  have h : EqA Try.prog 50 [.int .i64 a0, .int .i64 a1, .string (bs a2)] [.int .i64 b0, .int .i64 b1, .string (bs b2)] (a0 == b0 && (a1 == b1 && ((bs a2).toList == (bs b2).toList && true))) := EqA.flat Try.underlying50 (by kernel_rfl) (by kernel_rfl) (by kernel_rfl)
  rw [show decide (a0 = b0 ∧ a1 = b1 ∧ a2 = b2) = (a0 == b0 && (a1 == b1 && ((bs a2).toList == (bs b2).toList && true))) from by rw [Bool.eq_iff_iff]; simp [bs_toList]]; exact h
theorem size50 : (Try.prog.info? 50).map (·.size) = some 3 := by kernel_rfl
theorem zero50 : zeroT Try.prog 50 = some (Value.agg #[(Value.int .i64 0), (Value.int .i64 0), (Value.string (bs []))]) := by kernel_rfl
theorem us51 : (Try.prog.underlying 51).isSome = true := by kernel_rfl
theorem one51 : oneT Try.prog 51 = true := by kernel_rfl
theorem size51 : (Try.prog.info? 51).map (·.size) = some 1 := by kernel_rfl
theorem us52 : (Try.prog.underlying 52).isSome = true := by kernel_rfl
theorem one52 : oneT Try.prog 52 = true := by kernel_rfl
theorem size52 : (Try.prog.info? 52).map (·.size) = some 1 := by kernel_rfl
theorem us53 : (Try.prog.underlying 53).isSome = true := by kernel_rfl
theorem one53 : oneT Try.prog 53 = true := by kernel_rfl
theorem size53 : (Try.prog.info? 53).map (·.size) = some 1 := by kernel_rfl
theorem us54 : (Try.prog.underlying 54).isSome = true := by kernel_rfl
theorem one54 : oneT Try.prog 54 = true := by kernel_rfl
theorem size54 : (Try.prog.info? 54).map (·.size) = some 1 := by kernel_rfl
theorem us55 : (Try.prog.underlying 55).isSome = true := by kernel_rfl
theorem one55 : oneT Try.prog 55 = true := by kernel_rfl
theorem size55 : (Try.prog.info? 55).map (·.size) = some 1 := by kernel_rfl
theorem us56 : (Try.prog.underlying 56).isSome = true := by kernel_rfl
theorem one56 : oneT Try.prog 56 = true := by kernel_rfl
theorem size56 : (Try.prog.info? 56).map (·.size) = some 1 := by kernel_rfl
theorem us57 : (Try.prog.underlying 57).isSome = true := by kernel_rfl
theorem one57 : oneT Try.prog 57 = true := by kernel_rfl
theorem size57 : (Try.prog.info? 57).map (·.size) = some 1 := by kernel_rfl
theorem us58 : (Try.prog.underlying 58).isSome = true := by kernel_rfl
theorem one58 : oneT Try.prog 58 = true := by kernel_rfl
theorem size58 : (Try.prog.info? 58).map (·.size) = some 1 := by kernel_rfl
theorem zero58 : zeroT Try.prog 58 = some (Value.int .i64 0) := by kernel_rfl
theorem us60 : (Try.prog.underlying 60).isSome = true := by kernel_rfl
theorem one60 : oneT Try.prog 60 = true := by kernel_rfl
theorem size60 : (Try.prog.info? 60).map (·.size) = some 1 := by kernel_rfl
theorem us61 : (Try.prog.underlying 61).isSome = true := by kernel_rfl
theorem one61 : oneT Try.prog 61 = true := by kernel_rfl
theorem size61 : (Try.prog.info? 61).map (·.size) = some 1 := by kernel_rfl
theorem us62 : (Try.prog.underlying 62).isSome = true := by kernel_rfl
theorem one62 : oneT Try.prog 62 = true := by kernel_rfl
theorem size62 : (Try.prog.info? 62).map (·.size) = some 1 := by kernel_rfl
theorem us63 : (Try.prog.underlying 63).isSome = true := by kernel_rfl
theorem one63 : oneT Try.prog 63 = true := by kernel_rfl
theorem size63 : (Try.prog.info? 63).map (·.size) = some 1 := by kernel_rfl
theorem us64 : (Try.prog.underlying 64).isSome = true := by kernel_rfl
theorem one64 : oneT Try.prog 64 = true := by kernel_rfl
theorem size64 : (Try.prog.info? 64).map (·.size) = some 1 := by kernel_rfl
theorem us65 : (Try.prog.underlying 65).isSome = true := by kernel_rfl
theorem one65 : oneT Try.prog 65 = true := by kernel_rfl
theorem slt65 : SlT Try.prog 65 50 (Value.agg #[(Value.int .i64 0), (Value.int .i64 0), (Value.string (bs []))]) 3 32 := ⟨Try.underlying65, by kernel_rfl, rfl, by decide⟩
theorem size65 : (Try.prog.info? 65).map (·.size) = some 1 := by kernel_rfl
theorem zero65 : zeroT Try.prog 65 = some (Value.slice none 0 0) := by kernel_rfl
theorem us66 : (Try.prog.underlying 66).isSome = true := by kernel_rfl
theorem one66 : oneT Try.prog 66 = true := by kernel_rfl
theorem size66 : (Try.prog.info? 66).map (·.size) = some 1 := by kernel_rfl
theorem us68 : (Try.prog.underlying 68).isSome = true := by kernel_rfl
theorem one68 : oneT Try.prog 68 = true := by kernel_rfl
theorem size68 : (Try.prog.info? 68).map (·.size) = some 1 := by kernel_rfl
theorem us69 : (Try.prog.underlying 69).isSome = true := by kernel_rfl
theorem one69 : oneT Try.prog 69 = true := by kernel_rfl
theorem size69 : (Try.prog.info? 69).map (·.size) = some 1 := by kernel_rfl
theorem us70 : (Try.prog.underlying 70).isSome = true := by kernel_rfl
theorem one70 : oneT Try.prog 70 = true := by kernel_rfl
theorem size70 : (Try.prog.info? 70).map (·.size) = some 1 := by kernel_rfl
theorem us71 : (Try.prog.underlying 71).isSome = true := by kernel_rfl
theorem one71 : oneT Try.prog 71 = true := by kernel_rfl
theorem size71 : (Try.prog.info? 71).map (·.size) = some 1 := by kernel_rfl
theorem us72 : (Try.prog.underlying 72).isSome = true := by kernel_rfl
theorem one72 : oneT Try.prog 72 = true := by kernel_rfl
theorem size72 : (Try.prog.info? 72).map (·.size) = some 1 := by kernel_rfl
theorem us73 : (Try.prog.underlying 73).isSome = true := by kernel_rfl
theorem one73 : oneT Try.prog 73 = true := by kernel_rfl
theorem size73 : (Try.prog.info? 73).map (·.size) = some 1 := by kernel_rfl
theorem us74 : (Try.prog.underlying 74).isSome = true := by kernel_rfl
theorem one74 : oneT Try.prog 74 = true := by kernel_rfl
theorem size74 : (Try.prog.info? 74).map (·.size) = some 1 := by kernel_rfl
theorem us75 : (Try.prog.underlying 75).isSome = true := by kernel_rfl
theorem one75 : oneT Try.prog 75 = true := by kernel_rfl
theorem slt75 : SlT Try.prog 75 46 (Value.int .u16 0) 1 2 := ⟨Try.underlying75, by kernel_rfl, rfl, by decide⟩
theorem size75 : (Try.prog.info? 75).map (·.size) = some 1 := by kernel_rfl
theorem zero75 : zeroT Try.prog 75 = some (Value.slice none 0 0) := by kernel_rfl
theorem us76 : (Try.prog.underlying 76).isSome = true := by kernel_rfl
theorem one76 : oneT Try.prog 76 = true := by kernel_rfl
theorem size76 : (Try.prog.info? 76).map (·.size) = some 1 := by kernel_rfl
theorem zero76 : zeroT Try.prog 76 = some (Value.int .u64 0) := by kernel_rfl
theorem us77 : (Try.prog.underlying 77).isSome = true := by kernel_rfl
theorem one77 : oneT Try.prog 77 = true := by kernel_rfl
theorem size77 : (Try.prog.info? 77).map (·.size) = some 1 := by kernel_rfl
theorem us79 : (Try.prog.underlying 79).isSome = true := by kernel_rfl
theorem one79 : oneT Try.prog 79 = true := by kernel_rfl
theorem size79 : (Try.prog.info? 79).map (·.size) = some 1 := by kernel_rfl
theorem us80 : (Try.prog.underlying 80).isSome = true := by kernel_rfl
theorem one80 : oneT Try.prog 80 = true := by kernel_rfl
theorem size80 : (Try.prog.info? 80).map (·.size) = some 1 := by kernel_rfl
theorem us81 : (Try.prog.underlying 81).isSome = true := by kernel_rfl
theorem one81 : oneT Try.prog 81 = true := by kernel_rfl
theorem size81 : (Try.prog.info? 81).map (·.size) = some 1 := by kernel_rfl
theorem us82 : (Try.prog.underlying 82).isSome = true := by kernel_rfl
theorem one82 : oneT Try.prog 82 = true := by kernel_rfl
theorem size82 : (Try.prog.info? 82).map (·.size) = some 1 := by kernel_rfl
theorem us83 : (Try.prog.underlying 83).isSome = true := by kernel_rfl
theorem one83 : oneT Try.prog 83 = true := by kernel_rfl
theorem size83 : (Try.prog.info? 83).map (·.size) = some 1 := by kernel_rfl
theorem us84 : (Try.prog.underlying 84).isSome = true := by kernel_rfl
theorem one84 : oneT Try.prog 84 = true := by kernel_rfl
theorem size84 : (Try.prog.info? 84).map (·.size) = some 1 := by kernel_rfl
theorem us85 : (Try.prog.underlying 85).isSome = true := by kernel_rfl
theorem one85 : oneT Try.prog 85 = true := by kernel_rfl
theorem size85 : (Try.prog.info? 85).map (·.size) = some 1 := by kernel_rfl
theorem us86 : (Try.prog.underlying 86).isSome = true := by kernel_rfl
theorem one86 : oneT Try.prog 86 = true := by kernel_rfl
theorem size86 : (Try.prog.info? 86).map (·.size) = some 1 := by kernel_rfl
theorem us87 : (Try.prog.underlying 87).isSome = true := by kernel_rfl
theorem one87 : oneT Try.prog 87 = true := by kernel_rfl
theorem size87 : (Try.prog.info? 87).map (·.size) = some 1 := by kernel_rfl
theorem zero87 : zeroT Try.prog 87 = some (Value.chan none) := by kernel_rfl
theorem us88 : (Try.prog.underlying 88).isSome = true := by kernel_rfl
theorem agg88 : aggT Try.prog 88 = some 2 := by kernel_rfl
theorem fld88_0 : fieldT Try.prog 88 0 = some 0 := by kernel_rfl
theorem fld88_1 : fieldT Try.prog 88 1 = some 1 := by kernel_rfl
theorem size88 : (Try.prog.info? 88).map (·.size) = some 2 := by kernel_rfl
theorem zero88 : zeroT Try.prog 88 = some (Value.agg #[(Value.chan none), (Value.slice none 0 0)]) := by kernel_rfl
theorem us89 : (Try.prog.underlying 89).isSome = true := by kernel_rfl
theorem agg89 : aggT Try.prog 89 = some 2 := by kernel_rfl
theorem fld89_0 : fieldT Try.prog 89 0 = some 0 := by kernel_rfl
theorem fld89_1 : fieldT Try.prog 89 1 = some 1 := by kernel_rfl
theorem size89 : (Try.prog.info? 89).map (·.size) = some 2 := by kernel_rfl
theorem zero89 : zeroT Try.prog 89 = some (Value.agg #[(Value.chan none), (Value.slice none 0 0)]) := by kernel_rfl
theorem us90 : (Try.prog.underlying 90).isSome = true := by kernel_rfl
theorem one90 : oneT Try.prog 90 = true := by kernel_rfl
theorem size90 : (Try.prog.info? 90).map (·.size) = some 1 := by kernel_rfl
theorem us91 : (Try.prog.underlying 91).isSome = true := by kernel_rfl
theorem one91 : oneT Try.prog 91 = true := by kernel_rfl
theorem size91 : (Try.prog.info? 91).map (·.size) = some 1 := by kernel_rfl
theorem us92 : (Try.prog.underlying 92).isSome = true := by kernel_rfl
theorem one92 : oneT Try.prog 92 = true := by kernel_rfl
theorem size92 : (Try.prog.info? 92).map (·.size) = some 1 := by kernel_rfl
theorem us93 : (Try.prog.underlying 93).isSome = true := by kernel_rfl
theorem one93 : oneT Try.prog 93 = true := by kernel_rfl
theorem size93 : (Try.prog.info? 93).map (·.size) = some 1 := by kernel_rfl
theorem us94 : (Try.prog.underlying 94).isSome = true := by kernel_rfl
theorem one94 : oneT Try.prog 94 = true := by kernel_rfl
theorem size94 : (Try.prog.info? 94).map (·.size) = some 1 := by kernel_rfl
theorem us95 : (Try.prog.underlying 95).isSome = true := by kernel_rfl
theorem one95 : oneT Try.prog 95 = true := by kernel_rfl
theorem size95 : (Try.prog.info? 95).map (·.size) = some 1 := by kernel_rfl
theorem zero95 : zeroT Try.prog 95 = some (Value.int .u64 0) := by kernel_rfl
theorem us96 : (Try.prog.underlying 96).isSome = true := by kernel_rfl
theorem one96 : oneT Try.prog 96 = true := by kernel_rfl
theorem size96 : (Try.prog.info? 96).map (·.size) = some 1 := by kernel_rfl
theorem us97 : (Try.prog.underlying 97).isSome = true := by kernel_rfl
theorem one97 : oneT Try.prog 97 = true := by kernel_rfl
theorem size97 : (Try.prog.info? 97).map (·.size) = some 1 := by kernel_rfl
theorem us98 : (Try.prog.underlying 98).isSome = true := by kernel_rfl
theorem agg98 : aggT Try.prog 98 = some 2 := by kernel_rfl
theorem arr98 : arrT Try.prog 98 = some (2, 1) := by kernel_rfl
theorem size98 : (Try.prog.info? 98).map (·.size) = some 2 := by kernel_rfl
theorem zero98 : zeroT Try.prog 98 = some (Value.agg #[(Value.int .i64 0), (Value.int .i64 0)]) := by kernel_rfl
theorem us99 : (Try.prog.underlying 99).isSome = true := by kernel_rfl
theorem one99 : oneT Try.prog 99 = true := by kernel_rfl
theorem size99 : (Try.prog.info? 99).map (·.size) = some 1 := by kernel_rfl
theorem us100 : (Try.prog.underlying 100).isSome = true := by kernel_rfl
theorem agg100 : aggT Try.prog 100 = some 2 := by kernel_rfl
theorem arr100 : arrT Try.prog 100 = some (2, 1) := by kernel_rfl
theorem size100 : (Try.prog.info? 100).map (·.size) = some 2 := by kernel_rfl
theorem zero100 : zeroT Try.prog 100 = some (Value.agg #[(Value.int .i64 0), (Value.int .i64 0)]) := by kernel_rfl
theorem us101 : (Try.prog.underlying 101).isSome = true := by kernel_rfl
theorem one101 : oneT Try.prog 101 = true := by kernel_rfl
theorem size101 : (Try.prog.info? 101).map (·.size) = some 1 := by kernel_rfl
theorem us102 : (Try.prog.underlying 102).isSome = true := by kernel_rfl
theorem agg102 : aggT Try.prog 102 = some 2 := by kernel_rfl
theorem arr102 : arrT Try.prog 102 = some (2, 1) := by kernel_rfl
theorem size102 : (Try.prog.info? 102).map (·.size) = some 2 := by kernel_rfl
theorem zero102 : zeroT Try.prog 102 = some (Value.agg #[(Value.string (bs [])), (Value.string (bs []))]) := by kernel_rfl
theorem us103 : (Try.prog.underlying 103).isSome = true := by kernel_rfl
theorem one103 : oneT Try.prog 103 = true := by kernel_rfl
theorem size103 : (Try.prog.info? 103).map (·.size) = some 1 := by kernel_rfl
theorem zero103 : zeroT Try.prog 103 = some (Value.pointer none) := by kernel_rfl
theorem us104 : (Try.prog.underlying 104).isSome = true := by kernel_rfl
theorem agg104 : aggT Try.prog 104 = some 2 := by kernel_rfl
theorem fld104_0 : fieldT Try.prog 104 0 = some 0 := by kernel_rfl
theorem fld104_1 : fieldT Try.prog 104 1 = some 1 := by kernel_rfl
theorem size104 : (Try.prog.info? 104).map (·.size) = some 2 := by kernel_rfl
theorem zero104 : zeroT Try.prog 104 = some (Value.agg #[(Value.slice none 0 0), Value.nilFunc]) := by kernel_rfl
theorem us105 : (Try.prog.underlying 105).isSome = true := by kernel_rfl
theorem agg105 : aggT Try.prog 105 = some 2 := by kernel_rfl
theorem fld105_0 : fieldT Try.prog 105 0 = some 0 := by kernel_rfl
theorem fld105_1 : fieldT Try.prog 105 1 = some 1 := by kernel_rfl
theorem size105 : (Try.prog.info? 105).map (·.size) = some 2 := by kernel_rfl
theorem zero105 : zeroT Try.prog 105 = some (Value.agg #[(Value.slice none 0 0), Value.nilFunc]) := by kernel_rfl
theorem us106 : (Try.prog.underlying 106).isSome = true := by kernel_rfl
theorem one106 : oneT Try.prog 106 = true := by kernel_rfl
theorem size106 : (Try.prog.info? 106).map (·.size) = some 1 := by kernel_rfl
theorem us108 : (Try.prog.underlying 108).isSome = true := by kernel_rfl
theorem one108 : oneT Try.prog 108 = true := by kernel_rfl
theorem size108 : (Try.prog.info? 108).map (·.size) = some 1 := by kernel_rfl
theorem us109 : (Try.prog.underlying 109).isSome = true := by kernel_rfl
theorem one109 : oneT Try.prog 109 = true := by kernel_rfl
theorem size109 : (Try.prog.info? 109).map (·.size) = some 1 := by kernel_rfl
theorem us110 : (Try.prog.underlying 110).isSome = true := by kernel_rfl
theorem one110 : oneT Try.prog 110 = true := by kernel_rfl
theorem size110 : (Try.prog.info? 110).map (·.size) = some 1 := by kernel_rfl
theorem us111 : (Try.prog.underlying 111).isSome = true := by kernel_rfl
theorem one111 : oneT Try.prog 111 = true := by kernel_rfl
theorem size111 : (Try.prog.info? 111).map (·.size) = some 1 := by kernel_rfl
theorem us112 : (Try.prog.underlying 112).isSome = true := by kernel_rfl
theorem one112 : oneT Try.prog 112 = true := by kernel_rfl
theorem size112 : (Try.prog.info? 112).map (·.size) = some 1 := by kernel_rfl
theorem us113 : (Try.prog.underlying 113).isSome = true := by kernel_rfl
theorem one113 : oneT Try.prog 113 = true := by kernel_rfl
theorem size113 : (Try.prog.info? 113).map (·.size) = some 1 := by kernel_rfl
theorem us114 : (Try.prog.underlying 114).isSome = true := by kernel_rfl
theorem one114 : oneT Try.prog 114 = true := by kernel_rfl
theorem size114 : (Try.prog.info? 114).map (·.size) = some 1 := by kernel_rfl
theorem us115 : (Try.prog.underlying 115).isSome = true := by kernel_rfl
theorem one115 : oneT Try.prog 115 = true := by kernel_rfl
theorem slt115 : SlT Try.prog 115 98 (Value.agg #[(Value.int .i64 0), (Value.int .i64 0)]) 2 16 := ⟨Try.underlying115, by kernel_rfl, rfl, by decide⟩
theorem size115 : (Try.prog.info? 115).map (·.size) = some 1 := by kernel_rfl
theorem zero115 : zeroT Try.prog 115 = some (Value.slice none 0 0) := by kernel_rfl
theorem us116 : (Try.prog.underlying 116).isSome = true := by kernel_rfl
theorem one116 : oneT Try.prog 116 = true := by kernel_rfl
theorem slt116 : SlT Try.prog 116 100 (Value.agg #[(Value.int .i64 0), (Value.int .i64 0)]) 2 16 := ⟨Try.underlying116, by kernel_rfl, rfl, by decide⟩
theorem size116 : (Try.prog.info? 116).map (·.size) = some 1 := by kernel_rfl
theorem zero116 : zeroT Try.prog 116 = some (Value.slice none 0 0) := by kernel_rfl
theorem us117 : (Try.prog.underlying 117).isSome = true := by kernel_rfl
theorem one117 : oneT Try.prog 117 = true := by kernel_rfl
theorem size117 : (Try.prog.info? 117).map (·.size) = some 1 := by kernel_rfl
theorem us118 : (Try.prog.underlying 118).isSome = true := by kernel_rfl
theorem one118 : oneT Try.prog 118 = true := by kernel_rfl
theorem slt118 : SlT Try.prog 118 102 (Value.agg #[(Value.string (bs [])), (Value.string (bs []))]) 2 32 := ⟨Try.underlying118, by kernel_rfl, rfl, by decide⟩
theorem size118 : (Try.prog.info? 118).map (·.size) = some 1 := by kernel_rfl
theorem zero118 : zeroT Try.prog 118 = some (Value.slice none 0 0) := by kernel_rfl
theorem us120 : (Try.prog.underlying 120).isSome = true := by kernel_rfl
theorem one120 : oneT Try.prog 120 = true := by kernel_rfl
theorem size120 : (Try.prog.info? 120).map (·.size) = some 1 := by kernel_rfl
theorem us121 : (Try.prog.underlying 121).isSome = true := by kernel_rfl
theorem one121 : oneT Try.prog 121 = true := by kernel_rfl
theorem size121 : (Try.prog.info? 121).map (·.size) = some 1 := by kernel_rfl
theorem us122 : (Try.prog.underlying 122).isSome = true := by kernel_rfl
theorem one122 : oneT Try.prog 122 = true := by kernel_rfl
theorem size122 : (Try.prog.info? 122).map (·.size) = some 1 := by kernel_rfl
theorem us123 : (Try.prog.underlying 123).isSome = true := by kernel_rfl
theorem one123 : oneT Try.prog 123 = true := by kernel_rfl
theorem size123 : (Try.prog.info? 123).map (·.size) = some 1 := by kernel_rfl
theorem us124 : (Try.prog.underlying 124).isSome = true := by kernel_rfl
theorem agg124 : aggT Try.prog 124 = some 4 := by kernel_rfl
theorem fld124_0 : fieldT Try.prog 124 0 = some 0 := by kernel_rfl
theorem fld124_1 : fieldT Try.prog 124 1 = some 1 := by kernel_rfl
theorem fld124_2 : fieldT Try.prog 124 2 = some 2 := by kernel_rfl
theorem fld124_3 : fieldT Try.prog 124 3 = some 3 := by kernel_rfl
theorem size124 : (Try.prog.info? 124).map (·.size) = some 4 := by kernel_rfl
theorem zero124 : zeroT Try.prog 124 = some (Value.agg #[(Value.pointer none), (Value.pointer none), (Value.pointer none), (Value.string (bs []))]) := by kernel_rfl
theorem us125 : (Try.prog.underlying 125).isSome = true := by kernel_rfl
theorem agg125 : aggT Try.prog 125 = some 4 := by kernel_rfl
theorem fld125_0 : fieldT Try.prog 125 0 = some 0 := by kernel_rfl
theorem fld125_1 : fieldT Try.prog 125 1 = some 1 := by kernel_rfl
theorem fld125_2 : fieldT Try.prog 125 2 = some 2 := by kernel_rfl
theorem fld125_3 : fieldT Try.prog 125 3 = some 3 := by kernel_rfl
theorem size125 : (Try.prog.info? 125).map (·.size) = some 4 := by kernel_rfl
theorem zero125 : zeroT Try.prog 125 = some (Value.agg #[(Value.pointer none), (Value.pointer none), (Value.pointer none), (Value.string (bs []))]) := by kernel_rfl
theorem us126 : (Try.prog.underlying 126).isSome = true := by kernel_rfl
theorem agg126 : aggT Try.prog 126 = some 0 := by kernel_rfl
theorem arr126 : arrT Try.prog 126 = some (0, 1) := by kernel_rfl
theorem size126 : (Try.prog.info? 126).map (·.size) = some 0 := by kernel_rfl
theorem zero126 : zeroT Try.prog 126 = some (Value.agg #[]) := by kernel_rfl
theorem us127 : (Try.prog.underlying 127).isSome = true := by kernel_rfl
theorem agg127 : aggT Try.prog 127 = some 0 := by kernel_rfl
theorem size127 : (Try.prog.info? 127).map (·.size) = some 0 := by kernel_rfl
theorem zero127 : zeroT Try.prog 127 = some (Value.agg #[]) := by kernel_rfl
theorem us128 : (Try.prog.underlying 128).isSome = true := by kernel_rfl
theorem agg128 : aggT Try.prog 128 = some 0 := by kernel_rfl
theorem size128 : (Try.prog.info? 128).map (·.size) = some 0 := by kernel_rfl
theorem zero128 : zeroT Try.prog 128 = some (Value.agg #[]) := by kernel_rfl
theorem us129 : (Try.prog.underlying 129).isSome = true := by kernel_rfl
theorem one129 : oneT Try.prog 129 = true := by kernel_rfl
theorem size129 : (Try.prog.info? 129).map (·.size) = some 1 := by kernel_rfl
theorem zero129 : zeroT Try.prog 129 = some (Value.int .u32 0) := by kernel_rfl
theorem us130 : (Try.prog.underlying 130).isSome = true := by kernel_rfl
theorem one130 : oneT Try.prog 130 = true := by kernel_rfl
theorem size130 : (Try.prog.info? 130).map (·.size) = some 1 := by kernel_rfl
theorem zero130 : zeroT Try.prog 130 = some (Value.int .u8 0) := by kernel_rfl
theorem us131 : (Try.prog.underlying 131).isSome = true := by kernel_rfl
theorem one131 : oneT Try.prog 131 = true := by kernel_rfl
theorem size131 : (Try.prog.info? 131).map (·.size) = some 1 := by kernel_rfl
theorem zero131 : zeroT Try.prog 131 = some (Value.int .u8 0) := by kernel_rfl
theorem us132 : (Try.prog.underlying 132).isSome = true := by kernel_rfl
theorem one132 : oneT Try.prog 132 = true := by kernel_rfl
theorem size132 : (Try.prog.info? 132).map (·.size) = some 1 := by kernel_rfl
theorem us133 : (Try.prog.underlying 133).isSome = true := by kernel_rfl
theorem one133 : oneT Try.prog 133 = true := by kernel_rfl
theorem size133 : (Try.prog.info? 133).map (·.size) = some 1 := by kernel_rfl
theorem zero133 : zeroT Try.prog 133 = some (Value.pointer none) := by kernel_rfl
theorem us134 : (Try.prog.underlying 134).isSome = true := by kernel_rfl
theorem one134 : oneT Try.prog 134 = true := by kernel_rfl
theorem size134 : (Try.prog.info? 134).map (·.size) = some 1 := by kernel_rfl
theorem zero134 : zeroT Try.prog 134 = some (Value.int .i32 0) := by kernel_rfl
theorem us135 : (Try.prog.underlying 135).isSome = true := by kernel_rfl
theorem one135 : oneT Try.prog 135 = true := by kernel_rfl
theorem size135 : (Try.prog.info? 135).map (·.size) = some 1 := by kernel_rfl
theorem zero135 : zeroT Try.prog 135 = some (Value.int .i32 0) := by kernel_rfl
theorem us136 : (Try.prog.underlying 136).isSome = true := by kernel_rfl
theorem agg136 : aggT Try.prog 136 = some 11 := by kernel_rfl
theorem fld136_0 : fieldT Try.prog 136 0 = some 0 := by kernel_rfl
theorem fld136_1 : fieldT Try.prog 136 1 = some 1 := by kernel_rfl
theorem fld136_2 : fieldT Try.prog 136 2 = some 2 := by kernel_rfl
theorem fld136_3 : fieldT Try.prog 136 3 = some 3 := by kernel_rfl
theorem fld136_4 : fieldT Try.prog 136 4 = some 4 := by kernel_rfl
theorem fld136_5 : fieldT Try.prog 136 5 = some 5 := by kernel_rfl
theorem fld136_6 : fieldT Try.prog 136 6 = some 6 := by kernel_rfl
theorem fld136_7 : fieldT Try.prog 136 7 = some 7 := by kernel_rfl
theorem fld136_8 : fieldT Try.prog 136 8 = some 8 := by kernel_rfl
theorem fld136_9 : fieldT Try.prog 136 9 = some 9 := by kernel_rfl
theorem fld136_10 : fieldT Try.prog 136 10 = some 10 := by kernel_rfl
theorem size136 : (Try.prog.info? 136).map (·.size) = some 11 := by kernel_rfl
theorem zero136 : zeroT Try.prog 136 = some (Value.agg #[(Value.int .u64 0), (Value.int .u64 0), (Value.int .u32 0), (Value.int .u8 0), (Value.int .u8 0), (Value.int .u8 0), (Value.int .u8 0), Value.nilFunc, (Value.pointer none), (Value.int .i32 0), (Value.int .i32 0)]) := by kernel_rfl
theorem us137 : (Try.prog.underlying 137).isSome = true := by kernel_rfl
theorem agg137 : aggT Try.prog 137 = some 11 := by kernel_rfl
theorem fld137_0 : fieldT Try.prog 137 0 = some 0 := by kernel_rfl
theorem fld137_1 : fieldT Try.prog 137 1 = some 1 := by kernel_rfl
theorem fld137_2 : fieldT Try.prog 137 2 = some 2 := by kernel_rfl
theorem fld137_3 : fieldT Try.prog 137 3 = some 3 := by kernel_rfl
theorem fld137_4 : fieldT Try.prog 137 4 = some 4 := by kernel_rfl
theorem fld137_5 : fieldT Try.prog 137 5 = some 5 := by kernel_rfl
theorem fld137_6 : fieldT Try.prog 137 6 = some 6 := by kernel_rfl
theorem fld137_7 : fieldT Try.prog 137 7 = some 7 := by kernel_rfl
theorem fld137_8 : fieldT Try.prog 137 8 = some 8 := by kernel_rfl
theorem fld137_9 : fieldT Try.prog 137 9 = some 9 := by kernel_rfl
theorem fld137_10 : fieldT Try.prog 137 10 = some 10 := by kernel_rfl
theorem size137 : (Try.prog.info? 137).map (·.size) = some 11 := by kernel_rfl
theorem zero137 : zeroT Try.prog 137 = some (Value.agg #[(Value.int .u64 0), (Value.int .u64 0), (Value.int .u32 0), (Value.int .u8 0), (Value.int .u8 0), (Value.int .u8 0), (Value.int .u8 0), Value.nilFunc, (Value.pointer none), (Value.int .i32 0), (Value.int .i32 0)]) := by kernel_rfl
theorem us138 : (Try.prog.underlying 138).isSome = true := by kernel_rfl
theorem one138 : oneT Try.prog 138 = true := by kernel_rfl
theorem size138 : (Try.prog.info? 138).map (·.size) = some 1 := by kernel_rfl
theorem zero138 : zeroT Try.prog 138 = some (Value.pointer none) := by kernel_rfl
theorem ok3 : callOk Try.prog 3 = true := by kernel_rfl
theorem ok4 : callOk Try.prog 4 = true := by kernel_rfl
theorem ok5 : callOk Try.prog 5 = true := by kernel_rfl
theorem ok6 : callOk Try.prog 6 = true := by kernel_rfl
theorem ok7 : callOk Try.prog 7 = true := by kernel_rfl
theorem ok8 : callOk Try.prog 8 = true := by kernel_rfl
theorem ok9 : callOk Try.prog 9 = true := by kernel_rfl
theorem ok10 : callOk Try.prog 10 = true := by kernel_rfl
theorem ok11 : callOk Try.prog 11 = true := by kernel_rfl
theorem ok12 : callOk Try.prog 12 = true := by kernel_rfl
theorem ok13 : callOk Try.prog 13 = true := by kernel_rfl
theorem ok14 : callOk Try.prog 14 = true := by kernel_rfl
theorem ok15 : callOk Try.prog 15 = true := by kernel_rfl
theorem ok16 : callOk Try.prog 16 = true := by kernel_rfl
theorem ok17 : callOk Try.prog 17 = true := by kernel_rfl
theorem ok18 : callOk Try.prog 18 = true := by kernel_rfl
theorem ok19 : callOk Try.prog 19 = true := by kernel_rfl
theorem ok20 : callOk Try.prog 20 = true := by kernel_rfl
theorem ok21 : callOk Try.prog 21 = true := by kernel_rfl
theorem ok22 : callOk Try.prog 22 = true := by kernel_rfl
theorem ok23 : callOk Try.prog 23 = true := by kernel_rfl
theorem ok24 : callOk Try.prog 24 = true := by kernel_rfl
theorem ok25 : callOk Try.prog 25 = true := by kernel_rfl
theorem ok26 : callOk Try.prog 26 = true := by kernel_rfl
theorem ok27 : callOk Try.prog 27 = true := by kernel_rfl
theorem ok28 : callOk Try.prog 28 = true := by kernel_rfl
theorem ok29 : callOk Try.prog 29 = true := by kernel_rfl
theorem ok30 : callOk Try.prog 30 = true := by kernel_rfl
theorem ok31 : callOk Try.prog 31 = true := by kernel_rfl
theorem ok32 : callOk Try.prog 32 = true := by kernel_rfl
theorem ok33 : callOk Try.prog 33 = true := by kernel_rfl
theorem ok34 : callOk Try.prog 34 = true := by kernel_rfl
theorem ok35 : callOk Try.prog 35 = true := by kernel_rfl
theorem ok36 : callOk Try.prog 36 = true := by kernel_rfl
theorem ok37 : callOk Try.prog 37 = true := by kernel_rfl
theorem ok38 : callOk Try.prog 38 = true := by kernel_rfl
theorem ok39 : callOk Try.prog 39 = true := by kernel_rfl
theorem ok40 : callOk Try.prog 40 = true := by kernel_rfl
theorem ok41 : callOk Try.prog 41 = true := by kernel_rfl
theorem ok42 : callOk Try.prog 42 = true := by kernel_rfl
theorem ok43 : callOk Try.prog 43 = true := by kernel_rfl
theorem ok44 : callOk Try.prog 44 = true := by kernel_rfl
theorem ok45 : callOk Try.prog 45 = true := by kernel_rfl
theorem ok46 : callOk Try.prog 46 = true := by kernel_rfl
theorem ok47 : callOk Try.prog 47 = true := by kernel_rfl
theorem ok48 : callOk Try.prog 48 = true := by kernel_rfl
theorem ok49 : callOk Try.prog 49 = true := by kernel_rfl
theorem ok50 : callOk Try.prog 50 = true := by kernel_rfl
theorem ok51 : callOk Try.prog 51 = true := by kernel_rfl
theorem ok52 : callOk Try.prog 52 = true := by kernel_rfl
theorem ok53 : callOk Try.prog 53 = true := by kernel_rfl
theorem ok54 : callOk Try.prog 54 = true := by kernel_rfl
theorem ok55 : callOk Try.prog 55 = true := by kernel_rfl
theorem ok56 : callOk Try.prog 56 = true := by kernel_rfl
theorem ok57 : callOk Try.prog 57 = true := by kernel_rfl
theorem ok58 : callOk Try.prog 58 = true := by kernel_rfl
theorem ok59 : callOk Try.prog 59 = true := by kernel_rfl
theorem ok60 : callOk Try.prog 60 = true := by kernel_rfl
theorem ok61 : callOk Try.prog 61 = true := by kernel_rfl
theorem ok62 : callOk Try.prog 62 = true := by kernel_rfl
theorem ok63 : callOk Try.prog 63 = true := by kernel_rfl
theorem ok64 : callOk Try.prog 64 = true := by kernel_rfl
theorem ok65 : callOk Try.prog 65 = true := by kernel_rfl
theorem ok66 : callOk Try.prog 66 = true := by kernel_rfl
theorem ok67 : callOk Try.prog 67 = true := by kernel_rfl
theorem ok68 : callOk Try.prog 68 = true := by kernel_rfl
theorem ok69 : callOk Try.prog 69 = true := by kernel_rfl
theorem ok70 : callOk Try.prog 70 = true := by kernel_rfl
theorem ok71 : callOk Try.prog 71 = true := by kernel_rfl
theorem ok72 : callOk Try.prog 72 = true := by kernel_rfl
theorem ok73 : callOk Try.prog 73 = true := by kernel_rfl
theorem ok74 : callOk Try.prog 74 = true := by kernel_rfl
theorem ok75 : callOk Try.prog 75 = true := by kernel_rfl
theorem ok76 : callOk Try.prog 76 = true := by kernel_rfl
theorem ok77 : callOk Try.prog 77 = true := by kernel_rfl
theorem ok78 : callOk Try.prog 78 = true := by kernel_rfl
theorem ok79 : callOk Try.prog 79 = true := by kernel_rfl
theorem ok80 : callOk Try.prog 80 = true := by kernel_rfl
theorem ok81 : callOk Try.prog 81 = true := by kernel_rfl
theorem ok82 : callOk Try.prog 82 = true := by kernel_rfl
theorem ok83 : callOk Try.prog 83 = true := by kernel_rfl
theorem ok84 : callOk Try.prog 84 = true := by kernel_rfl
theorem ok85 : callOk Try.prog 85 = true := by kernel_rfl
theorem ok86 : callOk Try.prog 86 = true := by kernel_rfl
theorem ok87 : callOk Try.prog 87 = true := by kernel_rfl
theorem ok88 : callOk Try.prog 88 = true := by kernel_rfl
theorem ok89 : callOk Try.prog 89 = true := by kernel_rfl
theorem ok90 : callOk Try.prog 90 = true := by kernel_rfl
theorem mixed : Try.prog.follows .mixedOrders = true := by kernel_rfl
end Go.Proofs.Ytkkongnmcfdioaa
