/- What the plain steps ask of the translation's types. Printed by tys.py out of the translation. -/
import Derived.Test.YtlgfbiepbneihaaProg
import Derived.Test.YtlgfbiepbneihaaKB
namespace Go.Ab.Try
open Go.Proofs
set_option maxRecDepth 100000

@[go_sem] theorem sz2 : szOf Try.prog 2 = 1 := by kernel_rfl
@[go_sem] theorem by2 : byOf Try.prog 2 = 8 := by kernel_rfl
@[go_sem] theorem ag2 : agOf Try.prog 2 = 1 := by kernel_rfl
@[go_sem] theorem tk2 : tk Try.prog 2 = .int .i64 := by kernel_rfl
attribute [go_sem] Try.underlying2
@[go_sem] theorem zr2 : zro Try.prog 2 = some [.pv (.int .i64 0)] := by kernel_rfl
@[go_sem] theorem sz3 : szOf Try.prog 3 = 1 := by kernel_rfl
@[go_sem] theorem by3 : byOf Try.prog 3 = 8 := by kernel_rfl
@[go_sem] theorem ag3 : agOf Try.prog 3 = 1 := by kernel_rfl
@[go_sem] theorem tk3 : tk Try.prog 3 = .int .i64 := by kernel_rfl
attribute [go_sem] Try.underlying3
@[go_sem] theorem zr3 : zro Try.prog 3 = some [.pv (.int .i64 0)] := by kernel_rfl
@[go_sem] theorem sz4 : szOf Try.prog 4 = 1 := by kernel_rfl
@[go_sem] theorem by4 : byOf Try.prog 4 = 1 := by kernel_rfl
@[go_sem] theorem ag4 : agOf Try.prog 4 = 1 := by kernel_rfl
@[go_sem] theorem tk4 : tk Try.prog 4 = .bool := by kernel_rfl
attribute [go_sem] Try.underlying4
@[go_sem] theorem eqt4 : eqT Try.prog 4 = some [1] := by kernel_rfl
@[go_sem] theorem zr4 : zro Try.prog 4 = some [.pv (.bool false)] := by kernel_rfl
@[go_sem] theorem sz5 : szOf Try.prog 5 = 1 := by kernel_rfl
@[go_sem] theorem by5 : byOf Try.prog 5 = 1 := by kernel_rfl
@[go_sem] theorem ag5 : agOf Try.prog 5 = 1 := by kernel_rfl
@[go_sem] theorem tk5 : tk Try.prog 5 = .int .u8 := by kernel_rfl
attribute [go_sem] Try.underlying5
@[go_sem] theorem zr5 : zro Try.prog 5 = some [.pv (.int .u8 0)] := by kernel_rfl
@[go_sem] theorem sz6 : szOf Try.prog 6 = 1 := by kernel_rfl
@[go_sem] theorem by6 : byOf Try.prog 6 = 1 := by kernel_rfl
@[go_sem] theorem ag6 : agOf Try.prog 6 = 1 := by kernel_rfl
@[go_sem] theorem tk6 : tk Try.prog 6 = .int .u8 := by kernel_rfl
attribute [go_sem] Try.underlying6
@[go_sem] theorem zr6 : zro Try.prog 6 = some [.pv (.int .u8 0)] := by kernel_rfl
@[go_sem] theorem sz7 : szOf Try.prog 7 = 4 := by kernel_rfl
@[go_sem] theorem by7 : byOf Try.prog 7 = 24 := by kernel_rfl
@[go_sem] theorem ag7 : agOf Try.prog 7 = 2 := by kernel_rfl
@[go_sem] theorem tk7 : tk Try.prog 7 = .strct [(2, 0, 1, false), (3, 1, 1, false), (4, 2, 1, false), (6, 3, 1, false)] := by kernel_rfl
attribute [go_sem] Try.underlying7
@[go_sem] theorem zr7 : zro Try.prog 7 = some [.pv (.int .i64 0), .pv (.int .i64 0), .pv (.bool false), .pv (.int .u8 0)] := by kernel_rfl
@[go_sem] theorem sz8 : szOf Try.prog 8 = 4 := by kernel_rfl
@[go_sem] theorem by8 : byOf Try.prog 8 = 24 := by kernel_rfl
@[go_sem] theorem ag8 : agOf Try.prog 8 = 2 := by kernel_rfl
@[go_sem] theorem tk8 : tk Try.prog 8 = .strct [(2, 0, 1, false), (3, 1, 1, false), (4, 2, 1, false), (6, 3, 1, false)] := by kernel_rfl
attribute [go_sem] Try.underlying8
@[go_sem] theorem zr8 : zro Try.prog 8 = some [.pv (.int .i64 0), .pv (.int .i64 0), .pv (.bool false), .pv (.int .u8 0)] := by kernel_rfl
@[go_sem] theorem sz9 : szOf Try.prog 9 = 1 := by kernel_rfl
@[go_sem] theorem by9 : byOf Try.prog 9 = 16 := by kernel_rfl
@[go_sem] theorem ag9 : agOf Try.prog 9 = 1 := by kernel_rfl
@[go_sem] theorem tk9 : tk Try.prog 9 = .str := by kernel_rfl
attribute [go_sem] Try.underlying9
@[go_sem] theorem zr9 : zro Try.prog 9 = some [.pv (.str ⟨#[]⟩)] := by kernel_rfl
@[go_sem] theorem sz10 : szOf Try.prog 10 = 1 := by kernel_rfl
@[go_sem] theorem by10 : byOf Try.prog 10 = 16 := by kernel_rfl
@[go_sem] theorem ag10 : agOf Try.prog 10 = 1 := by kernel_rfl
@[go_sem] theorem tk10 : tk Try.prog 10 = .str := by kernel_rfl
attribute [go_sem] Try.underlying10
@[go_sem] theorem zr10 : zro Try.prog 10 = some [.pv (.str ⟨#[]⟩)] := by kernel_rfl
@[go_sem] theorem sz11 : szOf Try.prog 11 = 1 := by kernel_rfl
@[go_sem] theorem by11 : byOf Try.prog 11 = 16 := by kernel_rfl
@[go_sem] theorem ag11 : agOf Try.prog 11 = 1 := by kernel_rfl
@[go_sem] theorem tk11 : tk Try.prog 11 = .str := by kernel_rfl
attribute [go_sem] Try.underlying11
@[go_sem] theorem zr11 : zro Try.prog 11 = some [.pv (.str ⟨#[]⟩)] := by kernel_rfl
@[go_sem] theorem sz12 : szOf Try.prog 12 = 1 := by kernel_rfl
@[go_sem] theorem by12 : byOf Try.prog 12 = 8 := by kernel_rfl
@[go_sem] theorem ag12 : agOf Try.prog 12 = 1 := by kernel_rfl
@[go_sem] theorem tk12 : tk Try.prog 12 = .int .u64 := by kernel_rfl
attribute [go_sem] Try.underlying12
@[go_sem] theorem zr12 : zro Try.prog 12 = some [.pv (.int .u64 0)] := by kernel_rfl
@[go_sem] theorem sz13 : szOf Try.prog 13 = 2 := by kernel_rfl
@[go_sem] theorem by13 : byOf Try.prog 13 = 24 := by kernel_rfl
@[go_sem] theorem ag13 : agOf Try.prog 13 = 2 := by kernel_rfl
@[go_sem] theorem tk13 : tk Try.prog 13 = .strct [(9, 0, 1, false), (12, 1, 1, false)] := by kernel_rfl
attribute [go_sem] Try.underlying13
@[go_sem] theorem zr13 : zro Try.prog 13 = some [.pv (.str ⟨#[]⟩), .pv (.int .u64 0)] := by kernel_rfl
@[go_sem] theorem sz14 : szOf Try.prog 14 = 2 := by kernel_rfl
@[go_sem] theorem by14 : byOf Try.prog 14 = 24 := by kernel_rfl
@[go_sem] theorem ag14 : agOf Try.prog 14 = 2 := by kernel_rfl
@[go_sem] theorem tk14 : tk Try.prog 14 = .strct [(9, 0, 1, false), (12, 1, 1, false)] := by kernel_rfl
attribute [go_sem] Try.underlying14
@[go_sem] theorem zr14 : zro Try.prog 14 = some [.pv (.str ⟨#[]⟩), .pv (.int .u64 0)] := by kernel_rfl
@[go_sem] theorem sz15 : szOf Try.prog 15 = 1 := by kernel_rfl
@[go_sem] theorem by15 : byOf Try.prog 15 = 8 := by kernel_rfl
@[go_sem] theorem ag15 : agOf Try.prog 15 = 1 := by kernel_rfl
@[go_sem] theorem tk15 : tk Try.prog 15 = .other := by kernel_rfl
attribute [go_sem] Try.underlying15
@[go_sem] theorem zr15 : zro Try.prog 15 = some [.pv .nilPtr] := by kernel_rfl
@[go_sem] theorem sz16 : szOf Try.prog 16 = 1 := by kernel_rfl
@[go_sem] theorem by16 : byOf Try.prog 16 = 8 := by kernel_rfl
@[go_sem] theorem ag16 : agOf Try.prog 16 = 1 := by kernel_rfl
@[go_sem] theorem tk16 : tk Try.prog 16 = .other := by kernel_rfl
attribute [go_sem] Try.underlying16
@[go_sem] theorem zr16 : zro Try.prog 16 = some [.pv .nilPtr] := by kernel_rfl
@[go_sem] theorem sz17 : szOf Try.prog 17 = 1 := by kernel_rfl
@[go_sem] theorem by17 : byOf Try.prog 17 = 8 := by kernel_rfl
@[go_sem] theorem ag17 : agOf Try.prog 17 = 1 := by kernel_rfl
@[go_sem] theorem tk17 : tk Try.prog 17 = .other := by kernel_rfl
attribute [go_sem] Try.underlying17
@[go_sem] theorem zr17 : zro Try.prog 17 = some [.pv .nilPtr] := by kernel_rfl
@[go_sem] theorem sz18 : szOf Try.prog 18 = 1 := by kernel_rfl
@[go_sem] theorem by18 : byOf Try.prog 18 = 8 := by kernel_rfl
@[go_sem] theorem ag18 : agOf Try.prog 18 = 2 := by kernel_rfl
@[go_sem] theorem tk18 : tk Try.prog 18 = .strct [(17, 0, 1, false)] := by kernel_rfl
attribute [go_sem] Try.underlying18
@[go_sem] theorem zr18 : zro Try.prog 18 = some [.pv .nilPtr] := by kernel_rfl
@[go_sem] theorem sz19 : szOf Try.prog 19 = 1 := by kernel_rfl
@[go_sem] theorem by19 : byOf Try.prog 19 = 8 := by kernel_rfl
@[go_sem] theorem ag19 : agOf Try.prog 19 = 2 := by kernel_rfl
@[go_sem] theorem tk19 : tk Try.prog 19 = .strct [(17, 0, 1, false)] := by kernel_rfl
attribute [go_sem] Try.underlying19
@[go_sem] theorem zr19 : zro Try.prog 19 = some [.pv .nilPtr] := by kernel_rfl
@[go_sem] theorem sz20 : szOf Try.prog 20 = 1 := by kernel_rfl
@[go_sem] theorem by20 : byOf Try.prog 20 = 16 := by kernel_rfl
@[go_sem] theorem ag20 : agOf Try.prog 20 = 1 := by kernel_rfl
@[go_sem] theorem tk20 : tk Try.prog 20 = .other := by kernel_rfl
attribute [go_sem] Try.underlying20
@[go_sem] theorem zr20 : zro Try.prog 20 = some [.pv .nilIfc] := by kernel_rfl
@[go_sem] theorem sz21 : szOf Try.prog 21 = 1 := by kernel_rfl
@[go_sem] theorem by21 : byOf Try.prog 21 = 4 := by kernel_rfl
@[go_sem] theorem ag21 : agOf Try.prog 21 = 1 := by kernel_rfl
@[go_sem] theorem tk21 : tk Try.prog 21 = .int .i32 := by kernel_rfl
attribute [go_sem] Try.underlying21
@[go_sem] theorem zr21 : zro Try.prog 21 = some [.pv (.int .i32 0)] := by kernel_rfl
@[go_sem] theorem sz22 : szOf Try.prog 22 = 1 := by kernel_rfl
@[go_sem] theorem by22 : byOf Try.prog 22 = 24 := by kernel_rfl
@[go_sem] theorem ag22 : agOf Try.prog 22 = 1 := by kernel_rfl
@[go_sem] theorem tk22 : tk Try.prog 22 = .slice 55 5 40 := by kernel_rfl
attribute [go_sem] Try.underlying22
@[go_sem] theorem zr22 : zro Try.prog 22 = some [.pv (.lst true 0 [])] := by kernel_rfl
@[go_sem] theorem sz25 : szOf Try.prog 25 = 1 := by kernel_rfl
@[go_sem] theorem by25 : byOf Try.prog 25 = 24 := by kernel_rfl
@[go_sem] theorem ag25 : agOf Try.prog 25 = 1 := by kernel_rfl
@[go_sem] theorem tk25 : tk Try.prog 25 = .slice 3 1 8 := by kernel_rfl
attribute [go_sem] Try.underlying25
@[go_sem] theorem zr25 : zro Try.prog 25 = some [.pv (.lst true 0 [])] := by kernel_rfl
@[go_sem] theorem sz28 : szOf Try.prog 28 = 1 := by kernel_rfl
@[go_sem] theorem by28 : byOf Try.prog 28 = 24 := by kernel_rfl
@[go_sem] theorem ag28 : agOf Try.prog 28 = 1 := by kernel_rfl
@[go_sem] theorem tk28 : tk Try.prog 28 = .slice 4 1 1 := by kernel_rfl
attribute [go_sem] Try.underlying28
@[go_sem] theorem zr28 : zro Try.prog 28 = some [.pv (.lst true 0 [])] := by kernel_rfl
@[go_sem] theorem sz31 : szOf Try.prog 31 = 1 := by kernel_rfl
@[go_sem] theorem by31 : byOf Try.prog 31 = 24 := by kernel_rfl
@[go_sem] theorem ag31 : agOf Try.prog 31 = 1 := by kernel_rfl
@[go_sem] theorem tk31 : tk Try.prog 31 = .slice 51 2 16 := by kernel_rfl
attribute [go_sem] Try.underlying31
@[go_sem] theorem zr31 : zro Try.prog 31 = some [.pv (.lst true 0 [])] := by kernel_rfl
@[go_sem] theorem sz35 : szOf Try.prog 35 = 1 := by kernel_rfl
@[go_sem] theorem by35 : byOf Try.prog 35 = 24 := by kernel_rfl
@[go_sem] theorem ag35 : agOf Try.prog 35 = 1 := by kernel_rfl
@[go_sem] theorem tk35 : tk Try.prog 35 = .slice 5 1 1 := by kernel_rfl
attribute [go_sem] Try.underlying35
@[go_sem] theorem zr35 : zro Try.prog 35 = some [.pv (.lst true 0 [])] := by kernel_rfl
@[go_sem] theorem sz36 : szOf Try.prog 36 = 1 := by kernel_rfl
@[go_sem] theorem by36 : byOf Try.prog 36 = 24 := by kernel_rfl
@[go_sem] theorem ag36 : agOf Try.prog 36 = 1 := by kernel_rfl
@[go_sem] theorem tk36 : tk Try.prog 36 = .slice 43 1 8 := by kernel_rfl
attribute [go_sem] Try.underlying36
@[go_sem] theorem zr36 : zro Try.prog 36 = some [.pv (.lst true 0 [])] := by kernel_rfl
@[go_sem] theorem sz37 : szOf Try.prog 37 = 1 := by kernel_rfl
@[go_sem] theorem by37 : byOf Try.prog 37 = 24 := by kernel_rfl
@[go_sem] theorem ag37 : agOf Try.prog 37 = 1 := by kernel_rfl
@[go_sem] theorem tk37 : tk Try.prog 37 = .slice 90 3 24 := by kernel_rfl
attribute [go_sem] Try.underlying37
@[go_sem] theorem zr37 : zro Try.prog 37 = some [.pv (.lst true 0 [])] := by kernel_rfl
@[go_sem] theorem sz38 : szOf Try.prog 38 = 3 := by kernel_rfl
@[go_sem] theorem by38 : byOf Try.prog 38 = 56 := by kernel_rfl
@[go_sem] theorem ag38 : agOf Try.prog 38 = 2 := by kernel_rfl
@[go_sem] theorem tk38 : tk Try.prog 38 = .strct [(36, 0, 1, false), (37, 1, 1, false), (3, 2, 1, false)] := by kernel_rfl
attribute [go_sem] Try.underlying38
@[go_sem] theorem zr38 : zro Try.prog 38 = some [.pv (.lst true 0 []), .pv (.lst true 0 []), .pv (.int .i64 0)] := by kernel_rfl
@[go_sem] theorem sz39 : szOf Try.prog 39 = 3 := by kernel_rfl
@[go_sem] theorem by39 : byOf Try.prog 39 = 56 := by kernel_rfl
@[go_sem] theorem ag39 : agOf Try.prog 39 = 2 := by kernel_rfl
@[go_sem] theorem tk39 : tk Try.prog 39 = .strct [(36, 0, 1, false), (37, 1, 1, false), (3, 2, 1, false)] := by kernel_rfl
attribute [go_sem] Try.underlying39
@[go_sem] theorem zr39 : zro Try.prog 39 = some [.pv (.lst true 0 []), .pv (.lst true 0 []), .pv (.int .i64 0)] := by kernel_rfl
@[go_sem] theorem sz40 : szOf Try.prog 40 = 8 := by kernel_rfl
@[go_sem] theorem by40 : byOf Try.prog 40 = 128 := by kernel_rfl
@[go_sem] theorem ag40 : agOf Try.prog 40 = 2 := by kernel_rfl
@[go_sem] theorem tk40 : tk Try.prog 40 = .strct [(22, 0, 1, false), (35, 1, 1, false), (39, 2, 3, true), (3, 5, 1, false), (3, 6, 1, false), (3, 7, 1, false)] := by kernel_rfl
attribute [go_sem] Try.underlying40
@[go_sem] theorem zr40 : zro Try.prog 40 = some [.pv (.lst true 0 []), .pv (.lst true 0 []), .pv (.lst true 0 []), .pv (.lst true 0 []), .pv (.int .i64 0), .pv (.int .i64 0), .pv (.int .i64 0), .pv (.int .i64 0)] := by kernel_rfl
@[go_sem] theorem sz41 : szOf Try.prog 41 = 8 := by kernel_rfl
@[go_sem] theorem by41 : byOf Try.prog 41 = 128 := by kernel_rfl
@[go_sem] theorem ag41 : agOf Try.prog 41 = 2 := by kernel_rfl
@[go_sem] theorem tk41 : tk Try.prog 41 = .strct [(22, 0, 1, false), (35, 1, 1, false), (39, 2, 3, true), (3, 5, 1, false), (3, 6, 1, false), (3, 7, 1, false)] := by kernel_rfl
attribute [go_sem] Try.underlying41
@[go_sem] theorem zr41 : zro Try.prog 41 = some [.pv (.lst true 0 []), .pv (.lst true 0 []), .pv (.lst true 0 []), .pv (.lst true 0 []), .pv (.int .i64 0), .pv (.int .i64 0), .pv (.int .i64 0), .pv (.int .i64 0)] := by kernel_rfl
@[go_sem] theorem sz43 : szOf Try.prog 43 = 1 := by kernel_rfl
@[go_sem] theorem by43 : byOf Try.prog 43 = 8 := by kernel_rfl
@[go_sem] theorem ag43 : agOf Try.prog 43 = 1 := by kernel_rfl
@[go_sem] theorem tk43 : tk Try.prog 43 = .int .u64 := by kernel_rfl
attribute [go_sem] Try.underlying43
@[go_sem] theorem zr43 : zro Try.prog 43 = some [.pv (.int .u64 0)] := by kernel_rfl
@[go_sem] theorem sz44 : szOf Try.prog 44 = 8 := by kernel_rfl
@[go_sem] theorem by44 : byOf Try.prog 44 = 64 := by kernel_rfl
@[go_sem] theorem ag44 : agOf Try.prog 44 = 2 := by kernel_rfl
@[go_sem] theorem tk44 : tk Try.prog 44 = .arr 8 43 1 false := by kernel_rfl
attribute [go_sem] Try.underlying44
@[go_sem] theorem eqt44 : eqT Try.prog 44 = some [0, 0, 0, 0, 0, 0, 0, 0] := by kernel_rfl
@[go_sem] theorem zr44 : zro Try.prog 44 = some [.pv (.int .u64 0), .pv (.int .u64 0), .pv (.int .u64 0), .pv (.int .u64 0), .pv (.int .u64 0), .pv (.int .u64 0), .pv (.int .u64 0), .pv (.int .u64 0)] := by kernel_rfl
@[go_sem] theorem sz45 : szOf Try.prog 45 = 18 := by kernel_rfl
@[go_sem] theorem by45 : byOf Try.prog 45 = 192 := by kernel_rfl
@[go_sem] theorem ag45 : agOf Try.prog 45 = 2 := by kernel_rfl
@[go_sem] theorem tk45 : tk Try.prog 45 = .strct [(44, 0, 8, true), (36, 8, 1, false), (3, 9, 1, false), (3, 10, 1, false), (3, 11, 1, false), (3, 12, 1, false), (3, 13, 1, false), (43, 14, 1, false), (39, 15, 3, true)] := by kernel_rfl
attribute [go_sem] Try.underlying45
@[go_sem] theorem zr45 : zro Try.prog 45 = some [.pv (.int .u64 0), .pv (.int .u64 0), .pv (.int .u64 0), .pv (.int .u64 0), .pv (.int .u64 0), .pv (.int .u64 0), .pv (.int .u64 0), .pv (.int .u64 0), .pv (.lst true 0 []), .pv (.int .i64 0), .pv (.int .i64 0), .pv (.int .i64 0), .pv (.int .i64 0), .pv (.int .i64 0), .pv (.int .u64 0), .pv (.lst true 0 []), .pv (.lst true 0 []), .pv (.int .i64 0)] := by kernel_rfl
@[go_sem] theorem sz46 : szOf Try.prog 46 = 18 := by kernel_rfl
@[go_sem] theorem by46 : byOf Try.prog 46 = 192 := by kernel_rfl
@[go_sem] theorem ag46 : agOf Try.prog 46 = 2 := by kernel_rfl
@[go_sem] theorem tk46 : tk Try.prog 46 = .strct [(44, 0, 8, true), (36, 8, 1, false), (3, 9, 1, false), (3, 10, 1, false), (3, 11, 1, false), (3, 12, 1, false), (3, 13, 1, false), (43, 14, 1, false), (39, 15, 3, true)] := by kernel_rfl
attribute [go_sem] Try.underlying46
@[go_sem] theorem zr46 : zro Try.prog 46 = some [.pv (.int .u64 0), .pv (.int .u64 0), .pv (.int .u64 0), .pv (.int .u64 0), .pv (.int .u64 0), .pv (.int .u64 0), .pv (.int .u64 0), .pv (.int .u64 0), .pv (.lst true 0 []), .pv (.int .i64 0), .pv (.int .i64 0), .pv (.int .i64 0), .pv (.int .i64 0), .pv (.int .i64 0), .pv (.int .u64 0), .pv (.lst true 0 []), .pv (.lst true 0 []), .pv (.int .i64 0)] := by kernel_rfl
@[go_sem] theorem sz51 : szOf Try.prog 51 = 2 := by kernel_rfl
@[go_sem] theorem by51 : byOf Try.prog 51 = 16 := by kernel_rfl
@[go_sem] theorem ag51 : agOf Try.prog 51 = 2 := by kernel_rfl
@[go_sem] theorem tk51 : tk Try.prog 51 = .arr 2 3 1 false := by kernel_rfl
attribute [go_sem] Try.underlying51
@[go_sem] theorem eqt51 : eqT Try.prog 51 = some [0, 0] := by kernel_rfl
@[go_sem] theorem zr51 : zro Try.prog 51 = some [.pv (.int .i64 0), .pv (.int .i64 0)] := by kernel_rfl
@[go_sem] theorem sz52 : szOf Try.prog 52 = 8 := by kernel_rfl
@[go_sem] theorem by52 : byOf Try.prog 52 = 8 := by kernel_rfl
@[go_sem] theorem ag52 : agOf Try.prog 52 = 2 := by kernel_rfl
@[go_sem] theorem tk52 : tk Try.prog 52 = .arr 8 4 1 false := by kernel_rfl
attribute [go_sem] Try.underlying52
@[go_sem] theorem eqt52 : eqT Try.prog 52 = some [1, 1, 1, 1, 1, 1, 1, 1] := by kernel_rfl
@[go_sem] theorem zr52 : zro Try.prog 52 = some [.pv (.bool false), .pv (.bool false), .pv (.bool false), .pv (.bool false), .pv (.bool false), .pv (.bool false), .pv (.bool false), .pv (.bool false)] := by kernel_rfl
@[go_sem] theorem sz54 : szOf Try.prog 54 = 5 := by kernel_rfl
@[go_sem] theorem by54 : byOf Try.prog 54 = 40 := by kernel_rfl
@[go_sem] theorem ag54 : agOf Try.prog 54 = 2 := by kernel_rfl
@[go_sem] theorem tk54 : tk Try.prog 54 = .strct [(3, 0, 1, false), (3, 1, 1, false), (3, 2, 1, false), (3, 3, 1, false), (43, 4, 1, false)] := by kernel_rfl
attribute [go_sem] Try.underlying54
@[go_sem] theorem zr54 : zro Try.prog 54 = some [.pv (.int .i64 0), .pv (.int .i64 0), .pv (.int .i64 0), .pv (.int .i64 0), .pv (.int .u64 0)] := by kernel_rfl
@[go_sem] theorem sz55 : szOf Try.prog 55 = 5 := by kernel_rfl
@[go_sem] theorem by55 : byOf Try.prog 55 = 40 := by kernel_rfl
@[go_sem] theorem ag55 : agOf Try.prog 55 = 2 := by kernel_rfl
@[go_sem] theorem tk55 : tk Try.prog 55 = .strct [(3, 0, 1, false), (3, 1, 1, false), (3, 2, 1, false), (3, 3, 1, false), (43, 4, 1, false)] := by kernel_rfl
attribute [go_sem] Try.underlying55
@[go_sem] theorem zr55 : zro Try.prog 55 = some [.pv (.int .i64 0), .pv (.int .i64 0), .pv (.int .i64 0), .pv (.int .i64 0), .pv (.int .u64 0)] := by kernel_rfl
@[go_sem] theorem sz57 : szOf Try.prog 57 = 1 := by kernel_rfl
@[go_sem] theorem by57 : byOf Try.prog 57 = 24 := by kernel_rfl
@[go_sem] theorem ag57 : agOf Try.prog 57 = 1 := by kernel_rfl
@[go_sem] theorem tk57 : tk Try.prog 57 = .slice 52 8 8 := by kernel_rfl
attribute [go_sem] Try.underlying57
@[go_sem] theorem zr57 : zro Try.prog 57 = some [.pv (.lst true 0 [])] := by kernel_rfl
@[go_sem] theorem sz59 : szOf Try.prog 59 = 3 := by kernel_rfl
@[go_sem] theorem by59 : byOf Try.prog 59 = 16 := by kernel_rfl
@[go_sem] theorem ag59 : agOf Try.prog 59 = 2 := by kernel_rfl
@[go_sem] theorem tk59 : tk Try.prog 59 = .strct [(5, 0, 1, false), (5, 1, 1, false), (43, 2, 1, false)] := by kernel_rfl
attribute [go_sem] Try.underlying59
@[go_sem] theorem zr59 : zro Try.prog 59 = some [.pv (.int .u8 0), .pv (.int .u8 0), .pv (.int .u64 0)] := by kernel_rfl
@[go_sem] theorem sz60 : szOf Try.prog 60 = 3 := by kernel_rfl
@[go_sem] theorem by60 : byOf Try.prog 60 = 16 := by kernel_rfl
@[go_sem] theorem ag60 : agOf Try.prog 60 = 2 := by kernel_rfl
@[go_sem] theorem tk60 : tk Try.prog 60 = .strct [(5, 0, 1, false), (5, 1, 1, false), (43, 2, 1, false)] := by kernel_rfl
attribute [go_sem] Try.underlying60
@[go_sem] theorem zr60 : zro Try.prog 60 = some [.pv (.int .u8 0), .pv (.int .u8 0), .pv (.int .u64 0)] := by kernel_rfl
@[go_sem] theorem sz65 : szOf Try.prog 65 = 1 := by kernel_rfl
@[go_sem] theorem by65 : byOf Try.prog 65 = 24 := by kernel_rfl
@[go_sem] theorem ag65 : agOf Try.prog 65 = 1 := by kernel_rfl
@[go_sem] theorem tk65 : tk Try.prog 65 = .slice 68 17 80 := by kernel_rfl
attribute [go_sem] Try.underlying65
@[go_sem] theorem zr65 : zro Try.prog 65 = some [.pv (.lst true 0 [])] := by kernel_rfl
@[go_sem] theorem sz67 : szOf Try.prog 67 = 17 := by kernel_rfl
@[go_sem] theorem by67 : byOf Try.prog 67 = 80 := by kernel_rfl
@[go_sem] theorem ag67 : agOf Try.prog 67 = 2 := by kernel_rfl
@[go_sem] theorem tk67 : tk Try.prog 67 = .strct [(4, 0, 1, false), (52, 1, 8, true), (44, 9, 8, true)] := by kernel_rfl
attribute [go_sem] Try.underlying67
@[go_sem] theorem zr67 : zro Try.prog 67 = some [.pv (.bool false), .pv (.bool false), .pv (.bool false), .pv (.bool false), .pv (.bool false), .pv (.bool false), .pv (.bool false), .pv (.bool false), .pv (.bool false), .pv (.int .u64 0), .pv (.int .u64 0), .pv (.int .u64 0), .pv (.int .u64 0), .pv (.int .u64 0), .pv (.int .u64 0), .pv (.int .u64 0), .pv (.int .u64 0)] := by kernel_rfl
@[go_sem] theorem sz68 : szOf Try.prog 68 = 17 := by kernel_rfl
@[go_sem] theorem by68 : byOf Try.prog 68 = 80 := by kernel_rfl
@[go_sem] theorem ag68 : agOf Try.prog 68 = 2 := by kernel_rfl
@[go_sem] theorem tk68 : tk Try.prog 68 = .strct [(4, 0, 1, false), (52, 1, 8, true), (44, 9, 8, true)] := by kernel_rfl
attribute [go_sem] Try.underlying68
@[go_sem] theorem eqt68 : eqT Try.prog 68 = some [1, 1, 1, 1, 1, 1, 1, 1, 1, 0, 0, 0, 0, 0, 0, 0, 0] := by kernel_rfl
@[go_sem] theorem zr68 : zro Try.prog 68 = some [.pv (.bool false), .pv (.bool false), .pv (.bool false), .pv (.bool false), .pv (.bool false), .pv (.bool false), .pv (.bool false), .pv (.bool false), .pv (.bool false), .pv (.int .u64 0), .pv (.int .u64 0), .pv (.int .u64 0), .pv (.int .u64 0), .pv (.int .u64 0), .pv (.int .u64 0), .pv (.int .u64 0), .pv (.int .u64 0)] := by kernel_rfl
@[go_sem] theorem sz72 : szOf Try.prog 72 = 1 := by kernel_rfl
@[go_sem] theorem by72 : byOf Try.prog 72 = 8 := by kernel_rfl
@[go_sem] theorem ag72 : agOf Try.prog 72 = 1 := by kernel_rfl
@[go_sem] theorem tk72 : tk Try.prog 72 = .int .i64 := by kernel_rfl
attribute [go_sem] Try.underlying72
@[go_sem] theorem zr72 : zro Try.prog 72 = some [.pv (.int .i64 0)] := by kernel_rfl
@[go_sem] theorem sz76 : szOf Try.prog 76 = 1 := by kernel_rfl
@[go_sem] theorem by76 : byOf Try.prog 76 = 8 := by kernel_rfl
@[go_sem] theorem ag76 : agOf Try.prog 76 = 1 := by kernel_rfl
@[go_sem] theorem tk76 : tk Try.prog 76 = .other := by kernel_rfl
attribute [go_sem] Try.underlying76
@[go_sem] theorem zr76 : zro Try.prog 76 = some [.pv .nilMap] := by kernel_rfl
@[go_sem] theorem sz89 : szOf Try.prog 89 = 3 := by kernel_rfl
@[go_sem] theorem by89 : byOf Try.prog 89 = 24 := by kernel_rfl
@[go_sem] theorem ag89 : agOf Try.prog 89 = 2 := by kernel_rfl
@[go_sem] theorem tk89 : tk Try.prog 89 = .strct [(3, 0, 1, false), (43, 1, 1, false), (3, 2, 1, false)] := by kernel_rfl
attribute [go_sem] Try.underlying89
@[go_sem] theorem zr89 : zro Try.prog 89 = some [.pv (.int .i64 0), .pv (.int .u64 0), .pv (.int .i64 0)] := by kernel_rfl
@[go_sem] theorem sz90 : szOf Try.prog 90 = 3 := by kernel_rfl
@[go_sem] theorem by90 : byOf Try.prog 90 = 24 := by kernel_rfl
@[go_sem] theorem ag90 : agOf Try.prog 90 = 2 := by kernel_rfl
@[go_sem] theorem tk90 : tk Try.prog 90 = .strct [(3, 0, 1, false), (43, 1, 1, false), (3, 2, 1, false)] := by kernel_rfl
attribute [go_sem] Try.underlying90
@[go_sem] theorem eqt90 : eqT Try.prog 90 = some [0, 0, 0] := by kernel_rfl
@[go_sem] theorem zr90 : zro Try.prog 90 = some [.pv (.int .i64 0), .pv (.int .u64 0), .pv (.int .i64 0)] := by kernel_rfl
@[go_sem] theorem sz93 : szOf Try.prog 93 = 1 := by kernel_rfl
@[go_sem] theorem by93 : byOf Try.prog 93 = 8 := by kernel_rfl
@[go_sem] theorem ag93 : agOf Try.prog 93 = 1 := by kernel_rfl
@[go_sem] theorem tk93 : tk Try.prog 93 = .other := by kernel_rfl
attribute [go_sem] Try.underlying93
@[go_sem] theorem zr93 : zro Try.prog 93 = some [.pv .nilPtr] := by kernel_rfl
@[go_sem] theorem sz94 : szOf Try.prog 94 = 26 := by kernel_rfl
@[go_sem] theorem by94 : byOf Try.prog 94 = 272 := by kernel_rfl
@[go_sem] theorem ag94 : agOf Try.prog 94 = 2 := by kernel_rfl
@[go_sem] theorem tk94 : tk Try.prog 94 = .strct [(46, 0, 18, true), (55, 18, 5, true), (35, 23, 1, false), (3, 24, 1, false), (23, 25, 1, false)] := by kernel_rfl
attribute [go_sem] Try.underlying94
@[go_sem] theorem zr94 : zro Try.prog 94 = some [.pv (.int .u64 0), .pv (.int .u64 0), .pv (.int .u64 0), .pv (.int .u64 0), .pv (.int .u64 0), .pv (.int .u64 0), .pv (.int .u64 0), .pv (.int .u64 0), .pv (.lst true 0 []), .pv (.int .i64 0), .pv (.int .i64 0), .pv (.int .i64 0), .pv (.int .i64 0), .pv (.int .i64 0), .pv (.int .u64 0), .pv (.lst true 0 []), .pv (.lst true 0 []), .pv (.int .i64 0), .pv (.int .i64 0), .pv (.int .i64 0), .pv (.int .i64 0), .pv (.int .i64 0), .pv (.int .u64 0), .pv (.lst true 0 []), .pv (.int .i64 0), .pv .nilFn] := by kernel_rfl
@[go_sem] theorem sz95 : szOf Try.prog 95 = 26 := by kernel_rfl
@[go_sem] theorem by95 : byOf Try.prog 95 = 272 := by kernel_rfl
@[go_sem] theorem ag95 : agOf Try.prog 95 = 2 := by kernel_rfl
@[go_sem] theorem tk95 : tk Try.prog 95 = .strct [(46, 0, 18, true), (55, 18, 5, true), (35, 23, 1, false), (3, 24, 1, false), (23, 25, 1, false)] := by kernel_rfl
attribute [go_sem] Try.underlying95
@[go_sem] theorem zr95 : zro Try.prog 95 = some [.pv (.int .u64 0), .pv (.int .u64 0), .pv (.int .u64 0), .pv (.int .u64 0), .pv (.int .u64 0), .pv (.int .u64 0), .pv (.int .u64 0), .pv (.int .u64 0), .pv (.lst true 0 []), .pv (.int .i64 0), .pv (.int .i64 0), .pv (.int .i64 0), .pv (.int .i64 0), .pv (.int .i64 0), .pv (.int .u64 0), .pv (.lst true 0 []), .pv (.lst true 0 []), .pv (.int .i64 0), .pv (.int .i64 0), .pv (.int .i64 0), .pv (.int .i64 0), .pv (.int .i64 0), .pv (.int .u64 0), .pv (.lst true 0 []), .pv (.int .i64 0), .pv .nilFn] := by kernel_rfl
@[go_sem] theorem sz123 : szOf Try.prog 123 = 2 := by kernel_rfl
@[go_sem] theorem by123 : byOf Try.prog 123 = 24 := by kernel_rfl
@[go_sem] theorem ag123 : agOf Try.prog 123 = 2 := by kernel_rfl
@[go_sem] theorem tk123 : tk Try.prog 123 = .strct [(9, 0, 1, false), (3, 1, 1, false)] := by kernel_rfl
attribute [go_sem] Try.underlying123
@[go_sem] theorem zr123 : zro Try.prog 123 = some [.pv (.str ⟨#[]⟩), .pv (.int .i64 0)] := by kernel_rfl
@[go_sem] theorem sz124 : szOf Try.prog 124 = 6 := by kernel_rfl
@[go_sem] theorem by124 : byOf Try.prog 124 = 72 := by kernel_rfl
@[go_sem] theorem ag124 : agOf Try.prog 124 = 2 := by kernel_rfl
@[go_sem] theorem tk124 : tk Try.prog 124 = .arr 3 123 2 true := by kernel_rfl
attribute [go_sem] Try.underlying124
@[go_sem] theorem zr124 : zro Try.prog 124 = some [.pv (.str ⟨#[]⟩), .pv (.int .i64 0), .pv (.str ⟨#[]⟩), .pv (.int .i64 0), .pv (.str ⟨#[]⟩), .pv (.int .i64 0)] := by kernel_rfl
@[go_sem] theorem sz126 : szOf Try.prog 126 = 3 := by kernel_rfl
@[go_sem] theorem by126 : byOf Try.prog 126 = 24 := by kernel_rfl
@[go_sem] theorem ag126 : agOf Try.prog 126 = 2 := by kernel_rfl
@[go_sem] theorem tk126 : tk Try.prog 126 = .arr 3 3 1 false := by kernel_rfl
attribute [go_sem] Try.underlying126
@[go_sem] theorem zr126 : zro Try.prog 126 = some [.pv (.int .i64 0), .pv (.int .i64 0), .pv (.int .i64 0)] := by kernel_rfl
@[go_sem] theorem sz131 : szOf Try.prog 131 = 15 := by kernel_rfl
@[go_sem] theorem by131 : byOf Try.prog 131 = 240 := by kernel_rfl
@[go_sem] theorem ag131 : agOf Try.prog 131 = 2 := by kernel_rfl
@[go_sem] theorem tk131 : tk Try.prog 131 = .arr 15 9 1 false := by kernel_rfl
attribute [go_sem] Try.underlying131
@[go_sem] theorem zr131 : zro Try.prog 131 = some [.pv (.str ⟨#[]⟩), .pv (.str ⟨#[]⟩), .pv (.str ⟨#[]⟩), .pv (.str ⟨#[]⟩), .pv (.str ⟨#[]⟩), .pv (.str ⟨#[]⟩), .pv (.str ⟨#[]⟩), .pv (.str ⟨#[]⟩), .pv (.str ⟨#[]⟩), .pv (.str ⟨#[]⟩), .pv (.str ⟨#[]⟩), .pv (.str ⟨#[]⟩), .pv (.str ⟨#[]⟩), .pv (.str ⟨#[]⟩), .pv (.str ⟨#[]⟩)] := by kernel_rfl
@[go_sem] theorem sz140 : szOf Try.prog 140 = 1 := by kernel_rfl
@[go_sem] theorem by140 : byOf Try.prog 140 = 24 := by kernel_rfl
@[go_sem] theorem ag140 : agOf Try.prog 140 = 1 := by kernel_rfl
@[go_sem] theorem tk140 : tk Try.prog 140 = .slice 9 1 16 := by kernel_rfl
attribute [go_sem] Try.underlying140
@[go_sem] theorem zr140 : zro Try.prog 140 = some [.pv (.lst true 0 [])] := by kernel_rfl
@[go_sem] theorem sz141 : szOf Try.prog 141 = 1 := by kernel_rfl
@[go_sem] theorem by141 : byOf Try.prog 141 = 8 := by kernel_rfl
@[go_sem] theorem ag141 : agOf Try.prog 141 = 1 := by kernel_rfl
@[go_sem] theorem tk141 : tk Try.prog 141 = .int .u64 := by kernel_rfl
attribute [go_sem] Try.underlying141
@[go_sem] theorem zr141 : zro Try.prog 141 = some [.pv (.int .u64 0)] := by kernel_rfl
@[go_sem] theorem sz149 : szOf Try.prog 149 = 1 := by kernel_rfl
@[go_sem] theorem by149 : byOf Try.prog 149 = 4 := by kernel_rfl
@[go_sem] theorem ag149 : agOf Try.prog 149 = 1 := by kernel_rfl
@[go_sem] theorem tk149 : tk Try.prog 149 = .int .u32 := by kernel_rfl
attribute [go_sem] Try.underlying149
@[go_sem] theorem zr149 : zro Try.prog 149 = some [.pv (.int .u32 0)] := by kernel_rfl
@[go_sem] theorem sz153 : szOf Try.prog 153 = 4 := by kernel_rfl
@[go_sem] theorem by153 : byOf Try.prog 153 = 40 := by kernel_rfl
@[go_sem] theorem ag153 : agOf Try.prog 153 = 2 := by kernel_rfl
@[go_sem] theorem tk153 : tk Try.prog 153 = .strct [(17, 0, 1, false), (17, 1, 1, false), (17, 2, 1, false), (9, 3, 1, false)] := by kernel_rfl
attribute [go_sem] Try.underlying153
@[go_sem] theorem zr153 : zro Try.prog 153 = some [.pv .nilPtr, .pv .nilPtr, .pv .nilPtr, .pv (.str ⟨#[]⟩)] := by kernel_rfl
@[go_sem] theorem sz154 : szOf Try.prog 154 = 4 := by kernel_rfl
@[go_sem] theorem by154 : byOf Try.prog 154 = 40 := by kernel_rfl
@[go_sem] theorem ag154 : agOf Try.prog 154 = 2 := by kernel_rfl
@[go_sem] theorem tk154 : tk Try.prog 154 = .strct [(17, 0, 1, false), (17, 1, 1, false), (17, 2, 1, false), (9, 3, 1, false)] := by kernel_rfl
attribute [go_sem] Try.underlying154
@[go_sem] theorem zr154 : zro Try.prog 154 = some [.pv .nilPtr, .pv .nilPtr, .pv .nilPtr, .pv (.str ⟨#[]⟩)] := by kernel_rfl
@[go_sem] theorem sz155 : szOf Try.prog 155 = 0 := by kernel_rfl
@[go_sem] theorem by155 : byOf Try.prog 155 = 0 := by kernel_rfl
@[go_sem] theorem ag155 : agOf Try.prog 155 = 2 := by kernel_rfl
@[go_sem] theorem tk155 : tk Try.prog 155 = .arr 0 16 1 false := by kernel_rfl
attribute [go_sem] Try.underlying155
@[go_sem] theorem zr155 : zro Try.prog 155 = some [] := by kernel_rfl
@[go_sem] theorem sz156 : szOf Try.prog 156 = 0 := by kernel_rfl
@[go_sem] theorem by156 : byOf Try.prog 156 = 0 := by kernel_rfl
@[go_sem] theorem ag156 : agOf Try.prog 156 = 2 := by kernel_rfl
@[go_sem] theorem tk156 : tk Try.prog 156 = .strct [(155, 0, 0, true)] := by kernel_rfl
attribute [go_sem] Try.underlying156
@[go_sem] theorem zr156 : zro Try.prog 156 = some [] := by kernel_rfl
@[go_sem] theorem sz157 : szOf Try.prog 157 = 0 := by kernel_rfl
@[go_sem] theorem by157 : byOf Try.prog 157 = 0 := by kernel_rfl
@[go_sem] theorem ag157 : agOf Try.prog 157 = 2 := by kernel_rfl
@[go_sem] theorem tk157 : tk Try.prog 157 = .strct [(155, 0, 0, true)] := by kernel_rfl
attribute [go_sem] Try.underlying157
@[go_sem] theorem zr157 : zro Try.prog 157 = some [] := by kernel_rfl
@[go_sem] theorem sz159 : szOf Try.prog 159 = 1 := by kernel_rfl
@[go_sem] theorem by159 : byOf Try.prog 159 = 1 := by kernel_rfl
@[go_sem] theorem ag159 : agOf Try.prog 159 = 1 := by kernel_rfl
@[go_sem] theorem tk159 : tk Try.prog 159 = .int .u8 := by kernel_rfl
attribute [go_sem] Try.underlying159
@[go_sem] theorem zr159 : zro Try.prog 159 = some [.pv (.int .u8 0)] := by kernel_rfl
@[go_sem] theorem sz160 : szOf Try.prog 160 = 1 := by kernel_rfl
@[go_sem] theorem by160 : byOf Try.prog 160 = 1 := by kernel_rfl
@[go_sem] theorem ag160 : agOf Try.prog 160 = 1 := by kernel_rfl
@[go_sem] theorem tk160 : tk Try.prog 160 = .int .u8 := by kernel_rfl
attribute [go_sem] Try.underlying160
@[go_sem] theorem zr160 : zro Try.prog 160 = some [.pv (.int .u8 0)] := by kernel_rfl
@[go_sem] theorem sz162 : szOf Try.prog 162 = 1 := by kernel_rfl
@[go_sem] theorem by162 : byOf Try.prog 162 = 8 := by kernel_rfl
@[go_sem] theorem ag162 : agOf Try.prog 162 = 1 := by kernel_rfl
@[go_sem] theorem tk162 : tk Try.prog 162 = .other := by kernel_rfl
attribute [go_sem] Try.underlying162
@[go_sem] theorem zr162 : zro Try.prog 162 = some [.pv .nilPtr] := by kernel_rfl
@[go_sem] theorem sz163 : szOf Try.prog 163 = 1 := by kernel_rfl
@[go_sem] theorem by163 : byOf Try.prog 163 = 4 := by kernel_rfl
@[go_sem] theorem ag163 : agOf Try.prog 163 = 1 := by kernel_rfl
@[go_sem] theorem tk163 : tk Try.prog 163 = .int .i32 := by kernel_rfl
attribute [go_sem] Try.underlying163
@[go_sem] theorem zr163 : zro Try.prog 163 = some [.pv (.int .i32 0)] := by kernel_rfl
@[go_sem] theorem sz164 : szOf Try.prog 164 = 1 := by kernel_rfl
@[go_sem] theorem by164 : byOf Try.prog 164 = 4 := by kernel_rfl
@[go_sem] theorem ag164 : agOf Try.prog 164 = 1 := by kernel_rfl
@[go_sem] theorem tk164 : tk Try.prog 164 = .int .i32 := by kernel_rfl
attribute [go_sem] Try.underlying164
@[go_sem] theorem zr164 : zro Try.prog 164 = some [.pv (.int .i32 0)] := by kernel_rfl
@[go_sem] theorem sz165 : szOf Try.prog 165 = 11 := by kernel_rfl
@[go_sem] theorem by165 : byOf Try.prog 165 = 48 := by kernel_rfl
@[go_sem] theorem ag165 : agOf Try.prog 165 = 2 := by kernel_rfl
@[go_sem] theorem tk165 : tk Try.prog 165 = .strct [(12, 0, 1, false), (12, 1, 1, false), (149, 2, 1, false), (159, 3, 1, false), (5, 4, 1, false), (5, 5, 1, false), (160, 6, 1, false), (161, 7, 1, false), (162, 8, 1, false), (163, 9, 1, false), (164, 10, 1, false)] := by kernel_rfl
attribute [go_sem] Try.underlying165
@[go_sem] theorem zr165 : zro Try.prog 165 = some [.pv (.int .u64 0), .pv (.int .u64 0), .pv (.int .u32 0), .pv (.int .u8 0), .pv (.int .u8 0), .pv (.int .u8 0), .pv (.int .u8 0), .pv .nilFn, .pv .nilPtr, .pv (.int .i32 0), .pv (.int .i32 0)] := by kernel_rfl
@[go_sem] theorem sz166 : szOf Try.prog 166 = 11 := by kernel_rfl
@[go_sem] theorem by166 : byOf Try.prog 166 = 48 := by kernel_rfl
@[go_sem] theorem ag166 : agOf Try.prog 166 = 2 := by kernel_rfl
@[go_sem] theorem tk166 : tk Try.prog 166 = .strct [(12, 0, 1, false), (12, 1, 1, false), (149, 2, 1, false), (159, 3, 1, false), (5, 4, 1, false), (5, 5, 1, false), (160, 6, 1, false), (161, 7, 1, false), (162, 8, 1, false), (163, 9, 1, false), (164, 10, 1, false)] := by kernel_rfl
attribute [go_sem] Try.underlying166
@[go_sem] theorem zr166 : zro Try.prog 166 = some [.pv (.int .u64 0), .pv (.int .u64 0), .pv (.int .u32 0), .pv (.int .u8 0), .pv (.int .u8 0), .pv (.int .u8 0), .pv (.int .u8 0), .pv .nilFn, .pv .nilPtr, .pv (.int .i32 0), .pv (.int .i32 0)] := by kernel_rfl
@[go_sem] theorem sz167 : szOf Try.prog 167 = 1 := by kernel_rfl
@[go_sem] theorem by167 : byOf Try.prog 167 = 8 := by kernel_rfl
@[go_sem] theorem ag167 : agOf Try.prog 167 = 1 := by kernel_rfl
@[go_sem] theorem tk167 : tk Try.prog 167 = .other := by kernel_rfl
attribute [go_sem] Try.underlying167
@[go_sem] theorem zr167 : zro Try.prog 167 = some [.pv .nilPtr] := by kernel_rfl
end Go.Ab.Try
