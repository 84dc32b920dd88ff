/- What the plain steps ask of the translation's types. Printed by tys.py out of the translation. -/
import Derived.Test.YtknlgjeeenkleaaProg
import Derived.Test.YtknlgjeeenkleaaKB
namespace Go.Ab.Try
open Go.Proofs
set_option maxRecDepth 100000

@[go_sem] theorem sz2 : szOf Try.prog 2 = 1 := by kernel_rfl
@[go_sem] theorem by2 : byOf Try.prog 2 = 8 := by kernel_rfl
@[go_sem] theorem ag2 : agOf Try.prog 2 = 1 := by kernel_rfl
@[go_sem] theorem tk2 : tk Try.prog 2 = .int .i64 := by kernel_rfl
attribute [go_sem] Try.underlying2
@[go_sem] theorem zr2 : zro Try.prog 2 = some [.pv (.int .i64 0)] := by kernel_rfl
@[go_sem] theorem sz3 : szOf Try.prog 3 = 1 := by kernel_rfl
@[go_sem] theorem by3 : byOf Try.prog 3 = 8 := by kernel_rfl
@[go_sem] theorem ag3 : agOf Try.prog 3 = 1 := by kernel_rfl
@[go_sem] theorem tk3 : tk Try.prog 3 = .int .i64 := by kernel_rfl
attribute [go_sem] Try.underlying3
@[go_sem] theorem zr3 : zro Try.prog 3 = some [.pv (.int .i64 0)] := by kernel_rfl
@[go_sem] theorem sz4 : szOf Try.prog 4 = 1 := by kernel_rfl
@[go_sem] theorem by4 : byOf Try.prog 4 = 1 := by kernel_rfl
@[go_sem] theorem ag4 : agOf Try.prog 4 = 1 := by kernel_rfl
@[go_sem] theorem tk4 : tk Try.prog 4 = .bool := by kernel_rfl
attribute [go_sem] Try.underlying4
@[go_sem] theorem eqt4 : eqT Try.prog 4 = some [1] := by kernel_rfl
@[go_sem] theorem zr4 : zro Try.prog 4 = some [.pv (.bool false)] := by kernel_rfl
@[go_sem] theorem sz5 : szOf Try.prog 5 = 1 := by kernel_rfl
@[go_sem] theorem by5 : byOf Try.prog 5 = 1 := by kernel_rfl
@[go_sem] theorem ag5 : agOf Try.prog 5 = 1 := by kernel_rfl
@[go_sem] theorem tk5 : tk Try.prog 5 = .int .u8 := by kernel_rfl
attribute [go_sem] Try.underlying5
@[go_sem] theorem zr5 : zro Try.prog 5 = some [.pv (.int .u8 0)] := by kernel_rfl
@[go_sem] theorem sz6 : szOf Try.prog 6 = 1 := by kernel_rfl
@[go_sem] theorem by6 : byOf Try.prog 6 = 1 := by kernel_rfl
@[go_sem] theorem ag6 : agOf Try.prog 6 = 1 := by kernel_rfl
@[go_sem] theorem tk6 : tk Try.prog 6 = .int .u8 := by kernel_rfl
attribute [go_sem] Try.underlying6
@[go_sem] theorem zr6 : zro Try.prog 6 = some [.pv (.int .u8 0)] := by kernel_rfl
@[go_sem] theorem sz7 : szOf Try.prog 7 = 4 := by kernel_rfl
@[go_sem] theorem by7 : byOf Try.prog 7 = 24 := by kernel_rfl
@[go_sem] theorem ag7 : agOf Try.prog 7 = 2 := by kernel_rfl
@[go_sem] theorem tk7 : tk Try.prog 7 = .strct [(2, 0, 1, false), (3, 1, 1, false), (4, 2, 1, false), (6, 3, 1, false)] := by kernel_rfl
attribute [go_sem] Try.underlying7
@[go_sem] theorem zr7 : zro Try.prog 7 = some [.pv (.int .i64 0), .pv (.int .i64 0), .pv (.bool false), .pv (.int .u8 0)] := by kernel_rfl
@[go_sem] theorem sz8 : szOf Try.prog 8 = 4 := by kernel_rfl
@[go_sem] theorem by8 : byOf Try.prog 8 = 24 := by kernel_rfl
@[go_sem] theorem ag8 : agOf Try.prog 8 = 2 := by kernel_rfl
@[go_sem] theorem tk8 : tk Try.prog 8 = .strct [(2, 0, 1, false), (3, 1, 1, false), (4, 2, 1, false), (6, 3, 1, false)] := by kernel_rfl
attribute [go_sem] Try.underlying8
@[go_sem] theorem zr8 : zro Try.prog 8 = some [.pv (.int .i64 0), .pv (.int .i64 0), .pv (.bool false), .pv (.int .u8 0)] := by kernel_rfl
@[go_sem] theorem sz9 : szOf Try.prog 9 = 1 := by kernel_rfl
@[go_sem] theorem by9 : byOf Try.prog 9 = 16 := by kernel_rfl
@[go_sem] theorem ag9 : agOf Try.prog 9 = 1 := by kernel_rfl
@[go_sem] theorem tk9 : tk Try.prog 9 = .str := by kernel_rfl
attribute [go_sem] Try.underlying9
@[go_sem] theorem zr9 : zro Try.prog 9 = some [.pv (.str ⟨#[]⟩)] := by kernel_rfl
@[go_sem] theorem sz10 : szOf Try.prog 10 = 1 := by kernel_rfl
@[go_sem] theorem by10 : byOf Try.prog 10 = 16 := by kernel_rfl
@[go_sem] theorem ag10 : agOf Try.prog 10 = 1 := by kernel_rfl
@[go_sem] theorem tk10 : tk Try.prog 10 = .str := by kernel_rfl
attribute [go_sem] Try.underlying10
@[go_sem] theorem zr10 : zro Try.prog 10 = some [.pv (.str ⟨#[]⟩)] := by kernel_rfl
@[go_sem] theorem sz11 : szOf Try.prog 11 = 1 := by kernel_rfl
@[go_sem] theorem by11 : byOf Try.prog 11 = 16 := by kernel_rfl
@[go_sem] theorem ag11 : agOf Try.prog 11 = 1 := by kernel_rfl
@[go_sem] theorem tk11 : tk Try.prog 11 = .str := by kernel_rfl
attribute [go_sem] Try.underlying11
@[go_sem] theorem zr11 : zro Try.prog 11 = some [.pv (.str ⟨#[]⟩)] := by kernel_rfl
@[go_sem] theorem sz12 : szOf Try.prog 12 = 1 := by kernel_rfl
@[go_sem] theorem by12 : byOf Try.prog 12 = 8 := by kernel_rfl
@[go_sem] theorem ag12 : agOf Try.prog 12 = 1 := by kernel_rfl
@[go_sem] theorem tk12 : tk Try.prog 12 = .int .u64 := by kernel_rfl
attribute [go_sem] Try.underlying12
@[go_sem] theorem zr12 : zro Try.prog 12 = some [.pv (.int .u64 0)] := by kernel_rfl
@[go_sem] theorem sz13 : szOf Try.prog 13 = 2 := by kernel_rfl
@[go_sem] theorem by13 : byOf Try.prog 13 = 24 := by kernel_rfl
@[go_sem] theorem ag13 : agOf Try.prog 13 = 2 := by kernel_rfl
@[go_sem] theorem tk13 : tk Try.prog 13 = .strct [(9, 0, 1, false), (12, 1, 1, false)] := by kernel_rfl
attribute [go_sem] Try.underlying13
@[go_sem] theorem zr13 : zro Try.prog 13 = some [.pv (.str ⟨#[]⟩), .pv (.int .u64 0)] := by kernel_rfl
@[go_sem] theorem sz14 : szOf Try.prog 14 = 2 := by kernel_rfl
@[go_sem] theorem by14 : byOf Try.prog 14 = 24 := by kernel_rfl
@[go_sem] theorem ag14 : agOf Try.prog 14 = 2 := by kernel_rfl
@[go_sem] theorem tk14 : tk Try.prog 14 = .strct [(9, 0, 1, false), (12, 1, 1, false)] := by kernel_rfl
attribute [go_sem] Try.underlying14
@[go_sem] theorem zr14 : zro Try.prog 14 = some [.pv (.str ⟨#[]⟩), .pv (.int .u64 0)] := by kernel_rfl
@[go_sem] theorem sz15 : szOf Try.prog 15 = 1 := by kernel_rfl
@[go_sem] theorem by15 : byOf Try.prog 15 = 8 := by kernel_rfl
@[go_sem] theorem ag15 : agOf Try.prog 15 = 1 := by kernel_rfl
@[go_sem] theorem tk15 : tk Try.prog 15 = .other := by kernel_rfl
attribute [go_sem] Try.underlying15
@[go_sem] theorem zr15 : zro Try.prog 15 = some [.pv .nilPtr] := by kernel_rfl
@[go_sem] theorem sz16 : szOf Try.prog 16 = 1 := by kernel_rfl
@[go_sem] theorem by16 : byOf Try.prog 16 = 8 := by kernel_rfl
@[go_sem] theorem ag16 : agOf Try.prog 16 = 1 := by kernel_rfl
@[go_sem] theorem tk16 : tk Try.prog 16 = .other := by kernel_rfl
attribute [go_sem] Try.underlying16
@[go_sem] theorem zr16 : zro Try.prog 16 = some [.pv .nilPtr] := by kernel_rfl
@[go_sem] theorem sz17 : szOf Try.prog 17 = 1 := by kernel_rfl
@[go_sem] theorem by17 : byOf Try.prog 17 = 8 := by kernel_rfl
@[go_sem] theorem ag17 : agOf Try.prog 17 = 1 := by kernel_rfl
@[go_sem] theorem tk17 : tk Try.prog 17 = .other := by kernel_rfl
attribute [go_sem] Try.underlying17
@[go_sem] theorem zr17 : zro Try.prog 17 = some [.pv .nilPtr] := by kernel_rfl
@[go_sem] theorem sz18 : szOf Try.prog 18 = 1 := by kernel_rfl
@[go_sem] theorem by18 : byOf Try.prog 18 = 8 := by kernel_rfl
@[go_sem] theorem ag18 : agOf Try.prog 18 = 2 := by kernel_rfl
@[go_sem] theorem tk18 : tk Try.prog 18 = .strct [(17, 0, 1, false)] := by kernel_rfl
attribute [go_sem] Try.underlying18
@[go_sem] theorem zr18 : zro Try.prog 18 = some [.pv .nilPtr] := by kernel_rfl
@[go_sem] theorem sz19 : szOf Try.prog 19 = 1 := by kernel_rfl
@[go_sem] theorem by19 : byOf Try.prog 19 = 8 := by kernel_rfl
@[go_sem] theorem ag19 : agOf Try.prog 19 = 2 := by kernel_rfl
@[go_sem] theorem tk19 : tk Try.prog 19 = .strct [(17, 0, 1, false)] := by kernel_rfl
attribute [go_sem] Try.underlying19
@[go_sem] theorem zr19 : zro Try.prog 19 = some [.pv .nilPtr] := by kernel_rfl
@[go_sem] theorem sz20 : szOf Try.prog 20 = 1 := by kernel_rfl
@[go_sem] theorem by20 : byOf Try.prog 20 = 16 := by kernel_rfl
@[go_sem] theorem ag20 : agOf Try.prog 20 = 1 := by kernel_rfl
@[go_sem] theorem tk20 : tk Try.prog 20 = .other := by kernel_rfl
attribute [go_sem] Try.underlying20
@[go_sem] theorem zr20 : zro Try.prog 20 = some [.pv .nilIfc] := by kernel_rfl
@[go_sem] theorem sz21 : szOf Try.prog 21 = 1 := by kernel_rfl
@[go_sem] theorem by21 : byOf Try.prog 21 = 4 := by kernel_rfl
@[go_sem] theorem ag21 : agOf Try.prog 21 = 1 := by kernel_rfl
@[go_sem] theorem tk21 : tk Try.prog 21 = .int .i32 := by kernel_rfl
attribute [go_sem] Try.underlying21
@[go_sem] theorem zr21 : zro Try.prog 21 = some [.pv (.int .i32 0)] := by kernel_rfl
@[go_sem] theorem sz22 : szOf Try.prog 22 = 3 := by kernel_rfl
@[go_sem] theorem by22 : byOf Try.prog 22 = 24 := by kernel_rfl
@[go_sem] theorem ag22 : agOf Try.prog 22 = 2 := by kernel_rfl
@[go_sem] theorem tk22 : tk Try.prog 22 = .arr 3 3 1 false := by kernel_rfl
attribute [go_sem] Try.underlying22
@[go_sem] theorem zr22 : zro Try.prog 22 = some [.pv (.int .i64 0), .pv (.int .i64 0), .pv (.int .i64 0)] := by kernel_rfl
@[go_sem] theorem sz23 : szOf Try.prog 23 = 8 := by kernel_rfl
@[go_sem] theorem by23 : byOf Try.prog 23 = 64 := by kernel_rfl
@[go_sem] theorem ag23 : agOf Try.prog 23 = 2 := by kernel_rfl
@[go_sem] theorem tk23 : tk Try.prog 23 = .strct [(22, 0, 3, true), (3, 3, 1, false), (3, 4, 1, false), (3, 5, 1, false), (3, 6, 1, false), (3, 7, 1, false)] := by kernel_rfl
attribute [go_sem] Try.underlying23
@[go_sem] theorem zr23 : zro Try.prog 23 = some [.pv (.int .i64 0), .pv (.int .i64 0), .pv (.int .i64 0), .pv (.int .i64 0), .pv (.int .i64 0), .pv (.int .i64 0), .pv (.int .i64 0), .pv (.int .i64 0)] := by kernel_rfl
@[go_sem] theorem sz24 : szOf Try.prog 24 = 8 := by kernel_rfl
@[go_sem] theorem by24 : byOf Try.prog 24 = 64 := by kernel_rfl
@[go_sem] theorem ag24 : agOf Try.prog 24 = 2 := by kernel_rfl
@[go_sem] theorem tk24 : tk Try.prog 24 = .strct [(22, 0, 3, true), (3, 3, 1, false), (3, 4, 1, false), (3, 5, 1, false), (3, 6, 1, false), (3, 7, 1, false)] := by kernel_rfl
attribute [go_sem] Try.underlying24
@[go_sem] theorem eqt24 : eqT Try.prog 24 = some [0, 0, 0, 0, 0, 0, 0, 0] := by kernel_rfl
@[go_sem] theorem zr24 : zro Try.prog 24 = some [.pv (.int .i64 0), .pv (.int .i64 0), .pv (.int .i64 0), .pv (.int .i64 0), .pv (.int .i64 0), .pv (.int .i64 0), .pv (.int .i64 0), .pv (.int .i64 0)] := by kernel_rfl
@[go_sem] theorem sz25 : szOf Try.prog 25 = 1 := by kernel_rfl
@[go_sem] theorem by25 : byOf Try.prog 25 = 8 := by kernel_rfl
@[go_sem] theorem ag25 : agOf Try.prog 25 = 1 := by kernel_rfl
@[go_sem] theorem tk25 : tk Try.prog 25 = .int .i64 := by kernel_rfl
attribute [go_sem] Try.underlying25
@[go_sem] theorem zr25 : zro Try.prog 25 = some [.pv (.int .i64 0)] := by kernel_rfl
@[go_sem] theorem sz40 : szOf Try.prog 40 = 1 := by kernel_rfl
@[go_sem] theorem by40 : byOf Try.prog 40 = 24 := by kernel_rfl
@[go_sem] theorem ag40 : agOf Try.prog 40 = 1 := by kernel_rfl
@[go_sem] theorem tk40 : tk Try.prog 40 = .slice 44 1 8 := by kernel_rfl
attribute [go_sem] Try.underlying40
@[go_sem] theorem zr40 : zro Try.prog 40 = some [.pv (.lst true 0 [])] := by kernel_rfl
@[go_sem] theorem sz41 : szOf Try.prog 41 = 1 := by kernel_rfl
@[go_sem] theorem by41 : byOf Try.prog 41 = 24 := by kernel_rfl
@[go_sem] theorem ag41 : agOf Try.prog 41 = 1 := by kernel_rfl
@[go_sem] theorem tk41 : tk Try.prog 41 = .slice 60 3 24 := by kernel_rfl
attribute [go_sem] Try.underlying41
@[go_sem] theorem zr41 : zro Try.prog 41 = some [.pv (.lst true 0 [])] := by kernel_rfl
@[go_sem] theorem sz42 : szOf Try.prog 42 = 3 := by kernel_rfl
@[go_sem] theorem by42 : byOf Try.prog 42 = 56 := by kernel_rfl
@[go_sem] theorem ag42 : agOf Try.prog 42 = 2 := by kernel_rfl
@[go_sem] theorem tk42 : tk Try.prog 42 = .strct [(40, 0, 1, false), (41, 1, 1, false), (3, 2, 1, false)] := by kernel_rfl
attribute [go_sem] Try.underlying42
@[go_sem] theorem zr42 : zro Try.prog 42 = some [.pv (.lst true 0 []), .pv (.lst true 0 []), .pv (.int .i64 0)] := by kernel_rfl
@[go_sem] theorem sz43 : szOf Try.prog 43 = 3 := by kernel_rfl
@[go_sem] theorem by43 : byOf Try.prog 43 = 56 := by kernel_rfl
@[go_sem] theorem ag43 : agOf Try.prog 43 = 2 := by kernel_rfl
@[go_sem] theorem tk43 : tk Try.prog 43 = .strct [(40, 0, 1, false), (41, 1, 1, false), (3, 2, 1, false)] := by kernel_rfl
attribute [go_sem] Try.underlying43
@[go_sem] theorem zr43 : zro Try.prog 43 = some [.pv (.lst true 0 []), .pv (.lst true 0 []), .pv (.int .i64 0)] := by kernel_rfl
@[go_sem] theorem sz44 : szOf Try.prog 44 = 1 := by kernel_rfl
@[go_sem] theorem by44 : byOf Try.prog 44 = 8 := by kernel_rfl
@[go_sem] theorem ag44 : agOf Try.prog 44 = 1 := by kernel_rfl
@[go_sem] theorem tk44 : tk Try.prog 44 = .int .u64 := by kernel_rfl
attribute [go_sem] Try.underlying44
@[go_sem] theorem zr44 : zro Try.prog 44 = some [.pv (.int .u64 0)] := by kernel_rfl
@[go_sem] theorem sz45 : szOf Try.prog 45 = 3 := by kernel_rfl
@[go_sem] theorem by45 : byOf Try.prog 45 = 24 := by kernel_rfl
@[go_sem] theorem ag45 : agOf Try.prog 45 = 2 := by kernel_rfl
@[go_sem] theorem tk45 : tk Try.prog 45 = .arr 3 44 1 false := by kernel_rfl
attribute [go_sem] Try.underlying45
@[go_sem] theorem zr45 : zro Try.prog 45 = some [.pv (.int .u64 0), .pv (.int .u64 0), .pv (.int .u64 0)] := by kernel_rfl
@[go_sem] theorem sz55 : szOf Try.prog 55 = 1 := by kernel_rfl
@[go_sem] theorem by55 : byOf Try.prog 55 = 24 := by kernel_rfl
@[go_sem] theorem ag55 : agOf Try.prog 55 = 1 := by kernel_rfl
@[go_sem] theorem tk55 : tk Try.prog 55 = .slice 57 3 24 := by kernel_rfl
attribute [go_sem] Try.underlying55
@[go_sem] theorem zr55 : zro Try.prog 55 = some [.pv (.lst true 0 [])] := by kernel_rfl
@[go_sem] theorem sz56 : szOf Try.prog 56 = 3 := by kernel_rfl
@[go_sem] theorem by56 : byOf Try.prog 56 = 24 := by kernel_rfl
@[go_sem] theorem ag56 : agOf Try.prog 56 = 2 := by kernel_rfl
@[go_sem] theorem tk56 : tk Try.prog 56 = .strct [(3, 0, 1, false), (44, 1, 1, false), (44, 2, 1, false)] := by kernel_rfl
attribute [go_sem] Try.underlying56
@[go_sem] theorem zr56 : zro Try.prog 56 = some [.pv (.int .i64 0), .pv (.int .u64 0), .pv (.int .u64 0)] := by kernel_rfl
@[go_sem] theorem sz57 : szOf Try.prog 57 = 3 := by kernel_rfl
@[go_sem] theorem by57 : byOf Try.prog 57 = 24 := by kernel_rfl
@[go_sem] theorem ag57 : agOf Try.prog 57 = 2 := by kernel_rfl
@[go_sem] theorem tk57 : tk Try.prog 57 = .strct [(3, 0, 1, false), (44, 1, 1, false), (44, 2, 1, false)] := by kernel_rfl
attribute [go_sem] Try.underlying57
@[go_sem] theorem zr57 : zro Try.prog 57 = some [.pv (.int .i64 0), .pv (.int .u64 0), .pv (.int .u64 0)] := by kernel_rfl
@[go_sem] theorem sz59 : szOf Try.prog 59 = 3 := by kernel_rfl
@[go_sem] theorem by59 : byOf Try.prog 59 = 24 := by kernel_rfl
@[go_sem] theorem ag59 : agOf Try.prog 59 = 2 := by kernel_rfl
@[go_sem] theorem tk59 : tk Try.prog 59 = .strct [(3, 0, 1, false), (44, 1, 1, false), (3, 2, 1, false)] := by kernel_rfl
attribute [go_sem] Try.underlying59
@[go_sem] theorem zr59 : zro Try.prog 59 = some [.pv (.int .i64 0), .pv (.int .u64 0), .pv (.int .i64 0)] := by kernel_rfl
@[go_sem] theorem sz60 : szOf Try.prog 60 = 3 := by kernel_rfl
@[go_sem] theorem by60 : byOf Try.prog 60 = 24 := by kernel_rfl
@[go_sem] theorem ag60 : agOf Try.prog 60 = 2 := by kernel_rfl
@[go_sem] theorem tk60 : tk Try.prog 60 = .strct [(3, 0, 1, false), (44, 1, 1, false), (3, 2, 1, false)] := by kernel_rfl
attribute [go_sem] Try.underlying60
@[go_sem] theorem eqt60 : eqT Try.prog 60 = some [0, 0, 0] := by kernel_rfl
@[go_sem] theorem zr60 : zro Try.prog 60 = some [.pv (.int .i64 0), .pv (.int .u64 0), .pv (.int .i64 0)] := by kernel_rfl
@[go_sem] theorem sz64 : szOf Try.prog 64 = 1 := by kernel_rfl
@[go_sem] theorem by64 : byOf Try.prog 64 = 24 := by kernel_rfl
@[go_sem] theorem ag64 : agOf Try.prog 64 = 1 := by kernel_rfl
@[go_sem] theorem tk64 : tk Try.prog 64 = .slice 3 1 8 := by kernel_rfl
attribute [go_sem] Try.underlying64
@[go_sem] theorem zr64 : zro Try.prog 64 = some [.pv (.lst true 0 [])] := by kernel_rfl
@[go_sem] theorem sz68 : szOf Try.prog 68 = 1 := by kernel_rfl
@[go_sem] theorem by68 : byOf Try.prog 68 = 8 := by kernel_rfl
@[go_sem] theorem ag68 : agOf Try.prog 68 = 1 := by kernel_rfl
@[go_sem] theorem tk68 : tk Try.prog 68 = .int .u64 := by kernel_rfl
attribute [go_sem] Try.underlying68
@[go_sem] theorem zr68 : zro Try.prog 68 = some [.pv (.int .u64 0)] := by kernel_rfl
@[go_sem] theorem sz70 : szOf Try.prog 70 = 1 := by kernel_rfl
@[go_sem] theorem by70 : byOf Try.prog 70 = 24 := by kernel_rfl
@[go_sem] theorem ag70 : agOf Try.prog 70 = 1 := by kernel_rfl
@[go_sem] theorem tk70 : tk Try.prog 70 = .slice 87 5 40 := by kernel_rfl
attribute [go_sem] Try.underlying70
@[go_sem] theorem zr70 : zro Try.prog 70 = some [.pv (.lst true 0 [])] := by kernel_rfl
@[go_sem] theorem sz71 : szOf Try.prog 71 = 3 := by kernel_rfl
@[go_sem] theorem by71 : byOf Try.prog 71 = 72 := by kernel_rfl
@[go_sem] theorem ag71 : agOf Try.prog 71 = 2 := by kernel_rfl
@[go_sem] theorem tk71 : tk Try.prog 71 = .arr 3 70 1 false := by kernel_rfl
attribute [go_sem] Try.underlying71
@[go_sem] theorem zr71 : zro Try.prog 71 = some [.pv (.lst true 0 []), .pv (.lst true 0 []), .pv (.lst true 0 [])] := by kernel_rfl
@[go_sem] theorem sz72 : szOf Try.prog 72 = 6 := by kernel_rfl
@[go_sem] theorem by72 : byOf Try.prog 72 = 112 := by kernel_rfl
@[go_sem] theorem ag72 : agOf Try.prog 72 = 2 := by kernel_rfl
@[go_sem] theorem tk72 : tk Try.prog 72 = .strct [(3, 0, 1, false), (3, 1, 1, false), (40, 2, 1, false), (71, 3, 3, true)] := by kernel_rfl
attribute [go_sem] Try.underlying72
@[go_sem] theorem zr72 : zro Try.prog 72 = some [.pv (.int .i64 0), .pv (.int .i64 0), .pv (.lst true 0 []), .pv (.lst true 0 []), .pv (.lst true 0 []), .pv (.lst true 0 [])] := by kernel_rfl
@[go_sem] theorem sz73 : szOf Try.prog 73 = 6 := by kernel_rfl
@[go_sem] theorem by73 : byOf Try.prog 73 = 112 := by kernel_rfl
@[go_sem] theorem ag73 : agOf Try.prog 73 = 2 := by kernel_rfl
@[go_sem] theorem tk73 : tk Try.prog 73 = .strct [(3, 0, 1, false), (3, 1, 1, false), (40, 2, 1, false), (71, 3, 3, true)] := by kernel_rfl
attribute [go_sem] Try.underlying73
@[go_sem] theorem zr73 : zro Try.prog 73 = some [.pv (.int .i64 0), .pv (.int .i64 0), .pv (.lst true 0 []), .pv (.lst true 0 []), .pv (.lst true 0 []), .pv (.lst true 0 [])] := by kernel_rfl
@[go_sem] theorem sz82 : szOf Try.prog 82 = 1 := by kernel_rfl
@[go_sem] theorem by82 : byOf Try.prog 82 = 24 := by kernel_rfl
@[go_sem] theorem ag82 : agOf Try.prog 82 = 1 := by kernel_rfl
@[go_sem] theorem tk82 : tk Try.prog 82 = .slice 5 1 1 := by kernel_rfl
attribute [go_sem] Try.underlying82
@[go_sem] theorem zr82 : zro Try.prog 82 = some [.pv (.lst true 0 [])] := by kernel_rfl
@[go_sem] theorem sz86 : szOf Try.prog 86 = 5 := by kernel_rfl
@[go_sem] theorem by86 : byOf Try.prog 86 = 40 := by kernel_rfl
@[go_sem] theorem ag86 : agOf Try.prog 86 = 2 := by kernel_rfl
@[go_sem] theorem tk86 : tk Try.prog 86 = .strct [(3, 0, 1, false), (3, 1, 1, false), (3, 2, 1, false), (3, 3, 1, false), (44, 4, 1, false)] := by kernel_rfl
attribute [go_sem] Try.underlying86
@[go_sem] theorem zr86 : zro Try.prog 86 = some [.pv (.int .i64 0), .pv (.int .i64 0), .pv (.int .i64 0), .pv (.int .i64 0), .pv (.int .u64 0)] := by kernel_rfl
@[go_sem] theorem sz87 : szOf Try.prog 87 = 5 := by kernel_rfl
@[go_sem] theorem by87 : byOf Try.prog 87 = 40 := by kernel_rfl
@[go_sem] theorem ag87 : agOf Try.prog 87 = 2 := by kernel_rfl
@[go_sem] theorem tk87 : tk Try.prog 87 = .strct [(3, 0, 1, false), (3, 1, 1, false), (3, 2, 1, false), (3, 3, 1, false), (44, 4, 1, false)] := by kernel_rfl
attribute [go_sem] Try.underlying87
@[go_sem] theorem eqt87 : eqT Try.prog 87 = some [0, 0, 0, 0, 0] := by kernel_rfl
@[go_sem] theorem zr87 : zro Try.prog 87 = some [.pv (.int .i64 0), .pv (.int .i64 0), .pv (.int .i64 0), .pv (.int .i64 0), .pv (.int .u64 0)] := by kernel_rfl
@[go_sem] theorem sz91 : szOf Try.prog 91 = 1 := by kernel_rfl
@[go_sem] theorem by91 : byOf Try.prog 91 = 2 := by kernel_rfl
@[go_sem] theorem ag91 : agOf Try.prog 91 = 1 := by kernel_rfl
@[go_sem] theorem tk91 : tk Try.prog 91 = .int .u16 := by kernel_rfl
attribute [go_sem] Try.underlying91
@[go_sem] theorem zr91 : zro Try.prog 91 = some [.pv (.int .u16 0)] := by kernel_rfl
@[go_sem] theorem sz92 : szOf Try.prog 92 = 2 := by kernel_rfl
@[go_sem] theorem by92 : byOf Try.prog 92 = 4 := by kernel_rfl
@[go_sem] theorem ag92 : agOf Try.prog 92 = 2 := by kernel_rfl
@[go_sem] theorem tk92 : tk Try.prog 92 = .arr 2 91 1 false := by kernel_rfl
attribute [go_sem] Try.underlying92
@[go_sem] theorem zr92 : zro Try.prog 92 = some [.pv (.int .u16 0), .pv (.int .u16 0)] := by kernel_rfl
@[go_sem] theorem sz98 : szOf Try.prog 98 = 2 := by kernel_rfl
@[go_sem] theorem by98 : byOf Try.prog 98 = 16 := by kernel_rfl
@[go_sem] theorem ag98 : agOf Try.prog 98 = 2 := by kernel_rfl
@[go_sem] theorem tk98 : tk Try.prog 98 = .strct [(44, 0, 1, false), (44, 1, 1, false)] := by kernel_rfl
attribute [go_sem] Try.underlying98
@[go_sem] theorem zr98 : zro Try.prog 98 = some [.pv (.int .u64 0), .pv (.int .u64 0)] := by kernel_rfl
@[go_sem] theorem sz99 : szOf Try.prog 99 = 2 := by kernel_rfl
@[go_sem] theorem by99 : byOf Try.prog 99 = 16 := by kernel_rfl
@[go_sem] theorem ag99 : agOf Try.prog 99 = 2 := by kernel_rfl
@[go_sem] theorem tk99 : tk Try.prog 99 = .strct [(44, 0, 1, false), (44, 1, 1, false)] := by kernel_rfl
attribute [go_sem] Try.underlying99
@[go_sem] theorem zr99 : zro Try.prog 99 = some [.pv (.int .u64 0), .pv (.int .u64 0)] := by kernel_rfl
@[go_sem] theorem sz111 : szOf Try.prog 111 = 1 := by kernel_rfl
@[go_sem] theorem by111 : byOf Try.prog 111 = 24 := by kernel_rfl
@[go_sem] theorem ag111 : agOf Try.prog 111 = 1 := by kernel_rfl
@[go_sem] theorem tk111 : tk Try.prog 111 = .slice 64 1 24 := by kernel_rfl
attribute [go_sem] Try.underlying111
@[go_sem] theorem zr111 : zro Try.prog 111 = some [.pv (.lst true 0 [])] := by kernel_rfl
@[go_sem] theorem sz112 : szOf Try.prog 112 = 1 := by kernel_rfl
@[go_sem] theorem by112 : byOf Try.prog 112 = 24 := by kernel_rfl
@[go_sem] theorem ag112 : agOf Try.prog 112 = 1 := by kernel_rfl
@[go_sem] theorem tk112 : tk Try.prog 112 = .slice 4 1 1 := by kernel_rfl
attribute [go_sem] Try.underlying112
@[go_sem] theorem zr112 : zro Try.prog 112 = some [.pv (.lst true 0 [])] := by kernel_rfl
@[go_sem] theorem sz129 : szOf Try.prog 129 = 8 := by kernel_rfl
@[go_sem] theorem by129 : byOf Try.prog 129 = 64 := by kernel_rfl
@[go_sem] theorem ag129 : agOf Try.prog 129 = 2 := by kernel_rfl
@[go_sem] theorem tk129 : tk Try.prog 129 = .arr 8 3 1 false := by kernel_rfl
attribute [go_sem] Try.underlying129
@[go_sem] theorem zr129 : zro Try.prog 129 = some [.pv (.int .i64 0), .pv (.int .i64 0), .pv (.int .i64 0), .pv (.int .i64 0), .pv (.int .i64 0), .pv (.int .i64 0), .pv (.int .i64 0), .pv (.int .i64 0)] := by kernel_rfl
@[go_sem] theorem sz152 : szOf Try.prog 152 = 1 := by kernel_rfl
@[go_sem] theorem by152 : byOf Try.prog 152 = 8 := by kernel_rfl
@[go_sem] theorem ag152 : agOf Try.prog 152 = 1 := by kernel_rfl
@[go_sem] theorem tk152 : tk Try.prog 152 = .other := by kernel_rfl
attribute [go_sem] Try.underlying152
@[go_sem] theorem zr152 : zro Try.prog 152 = some [.pv .nilPtr] := by kernel_rfl
@[go_sem] theorem sz153 : szOf Try.prog 153 = 2 := by kernel_rfl
@[go_sem] theorem by153 : byOf Try.prog 153 = 24 := by kernel_rfl
@[go_sem] theorem ag153 : agOf Try.prog 153 = 2 := by kernel_rfl
@[go_sem] theorem tk153 : tk Try.prog 153 = .strct [(9, 0, 1, false), (4, 1, 1, false)] := by kernel_rfl
attribute [go_sem] Try.underlying153
@[go_sem] theorem zr153 : zro Try.prog 153 = some [.pv (.str ⟨#[]⟩), .pv (.bool false)] := by kernel_rfl
@[go_sem] theorem sz154 : szOf Try.prog 154 = 2 := by kernel_rfl
@[go_sem] theorem by154 : byOf Try.prog 154 = 24 := by kernel_rfl
@[go_sem] theorem ag154 : agOf Try.prog 154 = 2 := by kernel_rfl
@[go_sem] theorem tk154 : tk Try.prog 154 = .strct [(9, 0, 1, false), (4, 1, 1, false)] := by kernel_rfl
attribute [go_sem] Try.underlying154
@[go_sem] theorem zr154 : zro Try.prog 154 = some [.pv (.str ⟨#[]⟩), .pv (.bool false)] := by kernel_rfl
@[go_sem] theorem sz157 : szOf Try.prog 157 = 15 := by kernel_rfl
@[go_sem] theorem by157 : byOf Try.prog 157 = 240 := by kernel_rfl
@[go_sem] theorem ag157 : agOf Try.prog 157 = 2 := by kernel_rfl
@[go_sem] theorem tk157 : tk Try.prog 157 = .arr 15 9 1 false := by kernel_rfl
attribute [go_sem] Try.underlying157
@[go_sem] theorem zr157 : zro Try.prog 157 = some [.pv (.str ⟨#[]⟩), .pv (.str ⟨#[]⟩), .pv (.str ⟨#[]⟩), .pv (.str ⟨#[]⟩), .pv (.str ⟨#[]⟩), .pv (.str ⟨#[]⟩), .pv (.str ⟨#[]⟩), .pv (.str ⟨#[]⟩), .pv (.str ⟨#[]⟩), .pv (.str ⟨#[]⟩), .pv (.str ⟨#[]⟩), .pv (.str ⟨#[]⟩), .pv (.str ⟨#[]⟩), .pv (.str ⟨#[]⟩), .pv (.str ⟨#[]⟩)] := by kernel_rfl
@[go_sem] theorem sz158 : szOf Try.prog 158 = 1 := by kernel_rfl
@[go_sem] theorem by158 : byOf Try.prog 158 = 24 := by kernel_rfl
@[go_sem] theorem ag158 : agOf Try.prog 158 = 1 := by kernel_rfl
@[go_sem] theorem tk158 : tk Try.prog 158 = .slice 9 1 16 := by kernel_rfl
attribute [go_sem] Try.underlying158
@[go_sem] theorem zr158 : zro Try.prog 158 = some [.pv (.lst true 0 [])] := by kernel_rfl
@[go_sem] theorem sz172 : szOf Try.prog 172 = 2 := by kernel_rfl
@[go_sem] theorem by172 : byOf Try.prog 172 = 24 := by kernel_rfl
@[go_sem] theorem ag172 : agOf Try.prog 172 = 2 := by kernel_rfl
@[go_sem] theorem tk172 : tk Try.prog 172 = .strct [(9, 0, 1, false), (3, 1, 1, false)] := by kernel_rfl
attribute [go_sem] Try.underlying172
@[go_sem] theorem zr172 : zro Try.prog 172 = some [.pv (.str ⟨#[]⟩), .pv (.int .i64 0)] := by kernel_rfl
@[go_sem] theorem sz173 : szOf Try.prog 173 = 6 := by kernel_rfl
@[go_sem] theorem by173 : byOf Try.prog 173 = 72 := by kernel_rfl
@[go_sem] theorem ag173 : agOf Try.prog 173 = 2 := by kernel_rfl
@[go_sem] theorem tk173 : tk Try.prog 173 = .arr 3 172 2 true := by kernel_rfl
attribute [go_sem] Try.underlying173
@[go_sem] theorem zr173 : zro Try.prog 173 = some [.pv (.str ⟨#[]⟩), .pv (.int .i64 0), .pv (.str ⟨#[]⟩), .pv (.int .i64 0), .pv (.str ⟨#[]⟩), .pv (.int .i64 0)] := by kernel_rfl
@[go_sem] theorem sz177 : szOf Try.prog 177 = 2 := by kernel_rfl
@[go_sem] theorem by177 : byOf Try.prog 177 = 16 := by kernel_rfl
@[go_sem] theorem ag177 : agOf Try.prog 177 = 2 := by kernel_rfl
@[go_sem] theorem tk177 : tk Try.prog 177 = .strct [(3, 0, 1, false), (4, 1, 1, false)] := by kernel_rfl
attribute [go_sem] Try.underlying177
@[go_sem] theorem zr177 : zro Try.prog 177 = some [.pv (.int .i64 0), .pv (.bool false)] := by kernel_rfl
@[go_sem] theorem sz178 : szOf Try.prog 178 = 2 := by kernel_rfl
@[go_sem] theorem by178 : byOf Try.prog 178 = 16 := by kernel_rfl
@[go_sem] theorem ag178 : agOf Try.prog 178 = 2 := by kernel_rfl
@[go_sem] theorem tk178 : tk Try.prog 178 = .strct [(3, 0, 1, false), (4, 1, 1, false)] := by kernel_rfl
attribute [go_sem] Try.underlying178
@[go_sem] theorem zr178 : zro Try.prog 178 = some [.pv (.int .i64 0), .pv (.bool false)] := by kernel_rfl
@[go_sem] theorem sz186 : szOf Try.prog 186 = 1 := by kernel_rfl
@[go_sem] theorem by186 : byOf Try.prog 186 = 4 := by kernel_rfl
@[go_sem] theorem ag186 : agOf Try.prog 186 = 1 := by kernel_rfl
@[go_sem] theorem tk186 : tk Try.prog 186 = .int .u32 := by kernel_rfl
attribute [go_sem] Try.underlying186
@[go_sem] theorem zr186 : zro Try.prog 186 = some [.pv (.int .u32 0)] := by kernel_rfl
@[go_sem] theorem sz190 : szOf Try.prog 190 = 4 := by kernel_rfl
@[go_sem] theorem by190 : byOf Try.prog 190 = 40 := by kernel_rfl
@[go_sem] theorem ag190 : agOf Try.prog 190 = 2 := by kernel_rfl
@[go_sem] theorem tk190 : tk Try.prog 190 = .strct [(17, 0, 1, false), (17, 1, 1, false), (17, 2, 1, false), (9, 3, 1, false)] := by kernel_rfl
attribute [go_sem] Try.underlying190
@[go_sem] theorem zr190 : zro Try.prog 190 = some [.pv .nilPtr, .pv .nilPtr, .pv .nilPtr, .pv (.str ⟨#[]⟩)] := by kernel_rfl
@[go_sem] theorem sz191 : szOf Try.prog 191 = 4 := by kernel_rfl
@[go_sem] theorem by191 : byOf Try.prog 191 = 40 := by kernel_rfl
@[go_sem] theorem ag191 : agOf Try.prog 191 = 2 := by kernel_rfl
@[go_sem] theorem tk191 : tk Try.prog 191 = .strct [(17, 0, 1, false), (17, 1, 1, false), (17, 2, 1, false), (9, 3, 1, false)] := by kernel_rfl
attribute [go_sem] Try.underlying191
@[go_sem] theorem zr191 : zro Try.prog 191 = some [.pv .nilPtr, .pv .nilPtr, .pv .nilPtr, .pv (.str ⟨#[]⟩)] := by kernel_rfl
@[go_sem] theorem sz192 : szOf Try.prog 192 = 0 := by kernel_rfl
@[go_sem] theorem by192 : byOf Try.prog 192 = 0 := by kernel_rfl
@[go_sem] theorem ag192 : agOf Try.prog 192 = 2 := by kernel_rfl
@[go_sem] theorem tk192 : tk Try.prog 192 = .arr 0 16 1 false := by kernel_rfl
attribute [go_sem] Try.underlying192
@[go_sem] theorem zr192 : zro Try.prog 192 = some [] := by kernel_rfl
@[go_sem] theorem sz193 : szOf Try.prog 193 = 0 := by kernel_rfl
@[go_sem] theorem by193 : byOf Try.prog 193 = 0 := by kernel_rfl
@[go_sem] theorem ag193 : agOf Try.prog 193 = 2 := by kernel_rfl
@[go_sem] theorem tk193 : tk Try.prog 193 = .strct [(192, 0, 0, true)] := by kernel_rfl
attribute [go_sem] Try.underlying193
@[go_sem] theorem zr193 : zro Try.prog 193 = some [] := by kernel_rfl
@[go_sem] theorem sz194 : szOf Try.prog 194 = 0 := by kernel_rfl
@[go_sem] theorem by194 : byOf Try.prog 194 = 0 := by kernel_rfl
@[go_sem] theorem ag194 : agOf Try.prog 194 = 2 := by kernel_rfl
@[go_sem] theorem tk194 : tk Try.prog 194 = .strct [(192, 0, 0, true)] := by kernel_rfl
attribute [go_sem] Try.underlying194
@[go_sem] theorem zr194 : zro Try.prog 194 = some [] := by kernel_rfl
@[go_sem] theorem sz195 : szOf Try.prog 195 = 1 := by kernel_rfl
@[go_sem] theorem by195 : byOf Try.prog 195 = 1 := by kernel_rfl
@[go_sem] theorem ag195 : agOf Try.prog 195 = 1 := by kernel_rfl
@[go_sem] theorem tk195 : tk Try.prog 195 = .int .u8 := by kernel_rfl
attribute [go_sem] Try.underlying195
@[go_sem] theorem zr195 : zro Try.prog 195 = some [.pv (.int .u8 0)] := by kernel_rfl
@[go_sem] theorem sz196 : szOf Try.prog 196 = 1 := by kernel_rfl
@[go_sem] theorem by196 : byOf Try.prog 196 = 1 := by kernel_rfl
@[go_sem] theorem ag196 : agOf Try.prog 196 = 1 := by kernel_rfl
@[go_sem] theorem tk196 : tk Try.prog 196 = .int .u8 := by kernel_rfl
attribute [go_sem] Try.underlying196
@[go_sem] theorem zr196 : zro Try.prog 196 = some [.pv (.int .u8 0)] := by kernel_rfl
@[go_sem] theorem sz198 : szOf Try.prog 198 = 1 := by kernel_rfl
@[go_sem] theorem by198 : byOf Try.prog 198 = 8 := by kernel_rfl
@[go_sem] theorem ag198 : agOf Try.prog 198 = 1 := by kernel_rfl
@[go_sem] theorem tk198 : tk Try.prog 198 = .other := by kernel_rfl
attribute [go_sem] Try.underlying198
@[go_sem] theorem zr198 : zro Try.prog 198 = some [.pv .nilPtr] := by kernel_rfl
@[go_sem] theorem sz199 : szOf Try.prog 199 = 1 := by kernel_rfl
@[go_sem] theorem by199 : byOf Try.prog 199 = 4 := by kernel_rfl
@[go_sem] theorem ag199 : agOf Try.prog 199 = 1 := by kernel_rfl
@[go_sem] theorem tk199 : tk Try.prog 199 = .int .i32 := by kernel_rfl
attribute [go_sem] Try.underlying199
@[go_sem] theorem zr199 : zro Try.prog 199 = some [.pv (.int .i32 0)] := by kernel_rfl
@[go_sem] theorem sz200 : szOf Try.prog 200 = 1 := by kernel_rfl
@[go_sem] theorem by200 : byOf Try.prog 200 = 4 := by kernel_rfl
@[go_sem] theorem ag200 : agOf Try.prog 200 = 1 := by kernel_rfl
@[go_sem] theorem tk200 : tk Try.prog 200 = .int .i32 := by kernel_rfl
attribute [go_sem] Try.underlying200
@[go_sem] theorem zr200 : zro Try.prog 200 = some [.pv (.int .i32 0)] := by kernel_rfl
@[go_sem] theorem sz201 : szOf Try.prog 201 = 11 := by kernel_rfl
@[go_sem] theorem by201 : byOf Try.prog 201 = 48 := by kernel_rfl
@[go_sem] theorem ag201 : agOf Try.prog 201 = 2 := by kernel_rfl
@[go_sem] theorem tk201 : tk Try.prog 201 = .strct [(12, 0, 1, false), (12, 1, 1, false), (186, 2, 1, false), (195, 3, 1, false), (5, 4, 1, false), (5, 5, 1, false), (196, 6, 1, false), (197, 7, 1, false), (198, 8, 1, false), (199, 9, 1, false), (200, 10, 1, false)] := by kernel_rfl
attribute [go_sem] Try.underlying201
@[go_sem] theorem zr201 : zro Try.prog 201 = some [.pv (.int .u64 0), .pv (.int .u64 0), .pv (.int .u32 0), .pv (.int .u8 0), .pv (.int .u8 0), .pv (.int .u8 0), .pv (.int .u8 0), .pv .nilFn, .pv .nilPtr, .pv (.int .i32 0), .pv (.int .i32 0)] := by kernel_rfl
@[go_sem] theorem sz202 : szOf Try.prog 202 = 11 := by kernel_rfl
@[go_sem] theorem by202 : byOf Try.prog 202 = 48 := by kernel_rfl
@[go_sem] theorem ag202 : agOf Try.prog 202 = 2 := by kernel_rfl
@[go_sem] theorem tk202 : tk Try.prog 202 = .strct [(12, 0, 1, false), (12, 1, 1, false), (186, 2, 1, false), (195, 3, 1, false), (5, 4, 1, false), (5, 5, 1, false), (196, 6, 1, false), (197, 7, 1, false), (198, 8, 1, false), (199, 9, 1, false), (200, 10, 1, false)] := by kernel_rfl
attribute [go_sem] Try.underlying202
@[go_sem] theorem zr202 : zro Try.prog 202 = some [.pv (.int .u64 0), .pv (.int .u64 0), .pv (.int .u32 0), .pv (.int .u8 0), .pv (.int .u8 0), .pv (.int .u8 0), .pv (.int .u8 0), .pv .nilFn, .pv .nilPtr, .pv (.int .i32 0), .pv (.int .i32 0)] := by kernel_rfl
@[go_sem] theorem sz203 : szOf Try.prog 203 = 1 := by kernel_rfl
@[go_sem] theorem by203 : byOf Try.prog 203 = 8 := by kernel_rfl
@[go_sem] theorem ag203 : agOf Try.prog 203 = 1 := by kernel_rfl
@[go_sem] theorem tk203 : tk Try.prog 203 = .other := by kernel_rfl
attribute [go_sem] Try.underlying203
@[go_sem] theorem zr203 : zro Try.prog 203 = some [.pv .nilPtr] := by kernel_rfl
end Go.Ab.Try
