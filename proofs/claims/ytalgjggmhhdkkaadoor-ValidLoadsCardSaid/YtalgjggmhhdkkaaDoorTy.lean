/- What the plain steps ask of the translation's types. Printed by tys.py out of the translation. -/
import Derived.Test.YtalgjggmhhdkkaaDoorProg
import Derived.Test.YtalgjggmhhdkkaaDoorKB
namespace Go.Ab.Tryd
open Go.Proofs
set_option maxRecDepth 100000

@[go_sem] theorem sz2 : szOf Tryd.prog 2 = 1 := by kernel_rfl
@[go_sem] theorem by2 : byOf Tryd.prog 2 = 8 := by kernel_rfl
@[go_sem] theorem ag2 : agOf Tryd.prog 2 = 1 := by kernel_rfl
@[go_sem] theorem tk2 : tk Tryd.prog 2 = .int .i64 := by kernel_rfl
attribute [go_sem] Tryd.underlying2
@[go_sem] theorem zr2 : zro Tryd.prog 2 = some [.pv (.int .i64 0)] := by kernel_rfl
@[go_sem] theorem sz3 : szOf Tryd.prog 3 = 1 := by kernel_rfl
@[go_sem] theorem by3 : byOf Tryd.prog 3 = 8 := by kernel_rfl
@[go_sem] theorem ag3 : agOf Tryd.prog 3 = 1 := by kernel_rfl
@[go_sem] theorem tk3 : tk Tryd.prog 3 = .int .i64 := by kernel_rfl
attribute [go_sem] Tryd.underlying3
@[go_sem] theorem zr3 : zro Tryd.prog 3 = some [.pv (.int .i64 0)] := by kernel_rfl
@[go_sem] theorem sz4 : szOf Tryd.prog 4 = 1 := by kernel_rfl
@[go_sem] theorem by4 : byOf Tryd.prog 4 = 1 := by kernel_rfl
@[go_sem] theorem ag4 : agOf Tryd.prog 4 = 1 := by kernel_rfl
@[go_sem] theorem tk4 : tk Tryd.prog 4 = .bool := by kernel_rfl
attribute [go_sem] Tryd.underlying4
@[go_sem] theorem zr4 : zro Tryd.prog 4 = some [.pv (.bool false)] := by kernel_rfl
@[go_sem] theorem sz5 : szOf Tryd.prog 5 = 1 := by kernel_rfl
@[go_sem] theorem by5 : byOf Tryd.prog 5 = 1 := by kernel_rfl
@[go_sem] theorem ag5 : agOf Tryd.prog 5 = 1 := by kernel_rfl
@[go_sem] theorem tk5 : tk Tryd.prog 5 = .int .u8 := by kernel_rfl
attribute [go_sem] Tryd.underlying5
@[go_sem] theorem zr5 : zro Tryd.prog 5 = some [.pv (.int .u8 0)] := by kernel_rfl
@[go_sem] theorem sz6 : szOf Tryd.prog 6 = 1 := by kernel_rfl
@[go_sem] theorem by6 : byOf Tryd.prog 6 = 1 := by kernel_rfl
@[go_sem] theorem ag6 : agOf Tryd.prog 6 = 1 := by kernel_rfl
@[go_sem] theorem tk6 : tk Tryd.prog 6 = .int .u8 := by kernel_rfl
attribute [go_sem] Tryd.underlying6
@[go_sem] theorem zr6 : zro Tryd.prog 6 = some [.pv (.int .u8 0)] := by kernel_rfl
@[go_sem] theorem sz7 : szOf Tryd.prog 7 = 4 := by kernel_rfl
@[go_sem] theorem by7 : byOf Tryd.prog 7 = 24 := by kernel_rfl
@[go_sem] theorem ag7 : agOf Tryd.prog 7 = 2 := by kernel_rfl
@[go_sem] theorem tk7 : tk Tryd.prog 7 = .strct [(2, 0, 1, false), (3, 1, 1, false), (4, 2, 1, false), (6, 3, 1, false)] := by kernel_rfl
attribute [go_sem] Tryd.underlying7
@[go_sem] theorem zr7 : zro Tryd.prog 7 = some [.pv (.int .i64 0), .pv (.int .i64 0), .pv (.bool false), .pv (.int .u8 0)] := by kernel_rfl
@[go_sem] theorem sz8 : szOf Tryd.prog 8 = 4 := by kernel_rfl
@[go_sem] theorem by8 : byOf Tryd.prog 8 = 24 := by kernel_rfl
@[go_sem] theorem ag8 : agOf Tryd.prog 8 = 2 := by kernel_rfl
@[go_sem] theorem tk8 : tk Tryd.prog 8 = .strct [(2, 0, 1, false), (3, 1, 1, false), (4, 2, 1, false), (6, 3, 1, false)] := by kernel_rfl
attribute [go_sem] Tryd.underlying8
@[go_sem] theorem zr8 : zro Tryd.prog 8 = some [.pv (.int .i64 0), .pv (.int .i64 0), .pv (.bool false), .pv (.int .u8 0)] := by kernel_rfl
@[go_sem] theorem sz9 : szOf Tryd.prog 9 = 1 := by kernel_rfl
@[go_sem] theorem by9 : byOf Tryd.prog 9 = 16 := by kernel_rfl
@[go_sem] theorem ag9 : agOf Tryd.prog 9 = 1 := by kernel_rfl
@[go_sem] theorem tk9 : tk Tryd.prog 9 = .str := by kernel_rfl
attribute [go_sem] Tryd.underlying9
@[go_sem] theorem zr9 : zro Tryd.prog 9 = some [.pv (.str ⟨#[]⟩)] := by kernel_rfl
@[go_sem] theorem sz10 : szOf Tryd.prog 10 = 1 := by kernel_rfl
@[go_sem] theorem by10 : byOf Tryd.prog 10 = 16 := by kernel_rfl
@[go_sem] theorem ag10 : agOf Tryd.prog 10 = 1 := by kernel_rfl
@[go_sem] theorem tk10 : tk Tryd.prog 10 = .str := by kernel_rfl
attribute [go_sem] Tryd.underlying10
@[go_sem] theorem zr10 : zro Tryd.prog 10 = some [.pv (.str ⟨#[]⟩)] := by kernel_rfl
@[go_sem] theorem sz11 : szOf Tryd.prog 11 = 1 := by kernel_rfl
@[go_sem] theorem by11 : byOf Tryd.prog 11 = 16 := by kernel_rfl
@[go_sem] theorem ag11 : agOf Tryd.prog 11 = 1 := by kernel_rfl
@[go_sem] theorem tk11 : tk Tryd.prog 11 = .str := by kernel_rfl
attribute [go_sem] Tryd.underlying11
@[go_sem] theorem zr11 : zro Tryd.prog 11 = some [.pv (.str ⟨#[]⟩)] := by kernel_rfl
@[go_sem] theorem sz12 : szOf Tryd.prog 12 = 1 := by kernel_rfl
@[go_sem] theorem by12 : byOf Tryd.prog 12 = 8 := by kernel_rfl
@[go_sem] theorem ag12 : agOf Tryd.prog 12 = 1 := by kernel_rfl
@[go_sem] theorem tk12 : tk Tryd.prog 12 = .int .u64 := by kernel_rfl
attribute [go_sem] Tryd.underlying12
@[go_sem] theorem zr12 : zro Tryd.prog 12 = some [.pv (.int .u64 0)] := by kernel_rfl
@[go_sem] theorem sz13 : szOf Tryd.prog 13 = 2 := by kernel_rfl
@[go_sem] theorem by13 : byOf Tryd.prog 13 = 24 := by kernel_rfl
@[go_sem] theorem ag13 : agOf Tryd.prog 13 = 2 := by kernel_rfl
@[go_sem] theorem tk13 : tk Tryd.prog 13 = .strct [(9, 0, 1, false), (12, 1, 1, false)] := by kernel_rfl
attribute [go_sem] Tryd.underlying13
@[go_sem] theorem zr13 : zro Tryd.prog 13 = some [.pv (.str ⟨#[]⟩), .pv (.int .u64 0)] := by kernel_rfl
@[go_sem] theorem sz14 : szOf Tryd.prog 14 = 2 := by kernel_rfl
@[go_sem] theorem by14 : byOf Tryd.prog 14 = 24 := by kernel_rfl
@[go_sem] theorem ag14 : agOf Tryd.prog 14 = 2 := by kernel_rfl
@[go_sem] theorem tk14 : tk Tryd.prog 14 = .strct [(9, 0, 1, false), (12, 1, 1, false)] := by kernel_rfl
attribute [go_sem] Tryd.underlying14
@[go_sem] theorem zr14 : zro Tryd.prog 14 = some [.pv (.str ⟨#[]⟩), .pv (.int .u64 0)] := by kernel_rfl
@[go_sem] theorem sz15 : szOf Tryd.prog 15 = 1 := by kernel_rfl
@[go_sem] theorem by15 : byOf Tryd.prog 15 = 8 := by kernel_rfl
@[go_sem] theorem ag15 : agOf Tryd.prog 15 = 1 := by kernel_rfl
@[go_sem] theorem tk15 : tk Tryd.prog 15 = .other := by kernel_rfl
attribute [go_sem] Tryd.underlying15
@[go_sem] theorem zr15 : zro Tryd.prog 15 = some [.pv .nilPtr] := by kernel_rfl
@[go_sem] theorem sz16 : szOf Tryd.prog 16 = 1 := by kernel_rfl
@[go_sem] theorem by16 : byOf Tryd.prog 16 = 8 := by kernel_rfl
@[go_sem] theorem ag16 : agOf Tryd.prog 16 = 1 := by kernel_rfl
@[go_sem] theorem tk16 : tk Tryd.prog 16 = .other := by kernel_rfl
attribute [go_sem] Tryd.underlying16
@[go_sem] theorem zr16 : zro Tryd.prog 16 = some [.pv .nilPtr] := by kernel_rfl
@[go_sem] theorem sz17 : szOf Tryd.prog 17 = 1 := by kernel_rfl
@[go_sem] theorem by17 : byOf Tryd.prog 17 = 8 := by kernel_rfl
@[go_sem] theorem ag17 : agOf Tryd.prog 17 = 1 := by kernel_rfl
@[go_sem] theorem tk17 : tk Tryd.prog 17 = .other := by kernel_rfl
attribute [go_sem] Tryd.underlying17
@[go_sem] theorem zr17 : zro Tryd.prog 17 = some [.pv .nilPtr] := by kernel_rfl
@[go_sem] theorem sz18 : szOf Tryd.prog 18 = 1 := by kernel_rfl
@[go_sem] theorem by18 : byOf Tryd.prog 18 = 8 := by kernel_rfl
@[go_sem] theorem ag18 : agOf Tryd.prog 18 = 2 := by kernel_rfl
@[go_sem] theorem tk18 : tk Tryd.prog 18 = .strct [(17, 0, 1, false)] := by kernel_rfl
attribute [go_sem] Tryd.underlying18
@[go_sem] theorem zr18 : zro Tryd.prog 18 = some [.pv .nilPtr] := by kernel_rfl
@[go_sem] theorem sz19 : szOf Tryd.prog 19 = 1 := by kernel_rfl
@[go_sem] theorem by19 : byOf Tryd.prog 19 = 8 := by kernel_rfl
@[go_sem] theorem ag19 : agOf Tryd.prog 19 = 2 := by kernel_rfl
@[go_sem] theorem tk19 : tk Tryd.prog 19 = .strct [(17, 0, 1, false)] := by kernel_rfl
attribute [go_sem] Tryd.underlying19
@[go_sem] theorem zr19 : zro Tryd.prog 19 = some [.pv .nilPtr] := by kernel_rfl
@[go_sem] theorem sz20 : szOf Tryd.prog 20 = 1 := by kernel_rfl
@[go_sem] theorem by20 : byOf Tryd.prog 20 = 16 := by kernel_rfl
@[go_sem] theorem ag20 : agOf Tryd.prog 20 = 1 := by kernel_rfl
@[go_sem] theorem tk20 : tk Tryd.prog 20 = .other := by kernel_rfl
attribute [go_sem] Tryd.underlying20
@[go_sem] theorem zr20 : zro Tryd.prog 20 = some [.pv .nilIfc] := by kernel_rfl
@[go_sem] theorem sz21 : szOf Tryd.prog 21 = 1 := by kernel_rfl
@[go_sem] theorem by21 : byOf Tryd.prog 21 = 4 := by kernel_rfl
@[go_sem] theorem ag21 : agOf Tryd.prog 21 = 1 := by kernel_rfl
@[go_sem] theorem tk21 : tk Tryd.prog 21 = .int .i32 := by kernel_rfl
attribute [go_sem] Tryd.underlying21
@[go_sem] theorem zr21 : zro Tryd.prog 21 = some [.pv (.int .i32 0)] := by kernel_rfl
@[go_sem] theorem sz22 : szOf Tryd.prog 22 = 1 := by kernel_rfl
@[go_sem] theorem by22 : byOf Tryd.prog 22 = 24 := by kernel_rfl
@[go_sem] theorem ag22 : agOf Tryd.prog 22 = 1 := by kernel_rfl
@[go_sem] theorem tk22 : tk Tryd.prog 22 = .slice 43 1 8 := by kernel_rfl
attribute [go_sem] Tryd.underlying22
@[go_sem] theorem zr22 : zro Tryd.prog 22 = some [.pv (.lst true 0 [])] := by kernel_rfl
@[go_sem] theorem sz23 : szOf Tryd.prog 23 = 1 := by kernel_rfl
@[go_sem] theorem by23 : byOf Tryd.prog 23 = 24 := by kernel_rfl
@[go_sem] theorem ag23 : agOf Tryd.prog 23 = 1 := by kernel_rfl
@[go_sem] theorem tk23 : tk Tryd.prog 23 = .slice 46 5 40 := by kernel_rfl
attribute [go_sem] Tryd.underlying23
@[go_sem] theorem zr23 : zro Tryd.prog 23 = some [.pv (.lst true 0 [])] := by kernel_rfl
@[go_sem] theorem sz24 : szOf Tryd.prog 24 = 3 := by kernel_rfl
@[go_sem] theorem by24 : byOf Tryd.prog 24 = 72 := by kernel_rfl
@[go_sem] theorem ag24 : agOf Tryd.prog 24 = 2 := by kernel_rfl
@[go_sem] theorem tk24 : tk Tryd.prog 24 = .arr 3 23 1 false := by kernel_rfl
attribute [go_sem] Tryd.underlying24
@[go_sem] theorem zr24 : zro Tryd.prog 24 = some [.pv (.lst true 0 []), .pv (.lst true 0 []), .pv (.lst true 0 [])] := by kernel_rfl
@[go_sem] theorem sz25 : szOf Tryd.prog 25 = 6 := by kernel_rfl
@[go_sem] theorem by25 : byOf Tryd.prog 25 = 112 := by kernel_rfl
@[go_sem] theorem ag25 : agOf Tryd.prog 25 = 2 := by kernel_rfl
@[go_sem] theorem tk25 : tk Tryd.prog 25 = .strct [(3, 0, 1, false), (3, 1, 1, false), (22, 2, 1, false), (24, 3, 3, true)] := by kernel_rfl
attribute [go_sem] Tryd.underlying25
@[go_sem] theorem zr25 : zro Tryd.prog 25 = some [.pv (.int .i64 0), .pv (.int .i64 0), .pv (.lst true 0 []), .pv (.lst true 0 []), .pv (.lst true 0 []), .pv (.lst true 0 [])] := by kernel_rfl
@[go_sem] theorem sz26 : szOf Tryd.prog 26 = 6 := by kernel_rfl
@[go_sem] theorem by26 : byOf Tryd.prog 26 = 112 := by kernel_rfl
@[go_sem] theorem ag26 : agOf Tryd.prog 26 = 2 := by kernel_rfl
@[go_sem] theorem tk26 : tk Tryd.prog 26 = .strct [(3, 0, 1, false), (3, 1, 1, false), (22, 2, 1, false), (24, 3, 3, true)] := by kernel_rfl
attribute [go_sem] Tryd.underlying26
@[go_sem] theorem zr26 : zro Tryd.prog 26 = some [.pv (.int .i64 0), .pv (.int .i64 0), .pv (.lst true 0 []), .pv (.lst true 0 []), .pv (.lst true 0 []), .pv (.lst true 0 [])] := by kernel_rfl
@[go_sem] theorem sz29 : szOf Tryd.prog 29 = 1 := by kernel_rfl
@[go_sem] theorem by29 : byOf Tryd.prog 29 = 8 := by kernel_rfl
@[go_sem] theorem ag29 : agOf Tryd.prog 29 = 1 := by kernel_rfl
@[go_sem] theorem tk29 : tk Tryd.prog 29 = .int .i64 := by kernel_rfl
attribute [go_sem] Tryd.underlying29
@[go_sem] theorem zr29 : zro Tryd.prog 29 = some [.pv (.int .i64 0)] := by kernel_rfl
@[go_sem] theorem sz43 : szOf Tryd.prog 43 = 1 := by kernel_rfl
@[go_sem] theorem by43 : byOf Tryd.prog 43 = 8 := by kernel_rfl
@[go_sem] theorem ag43 : agOf Tryd.prog 43 = 1 := by kernel_rfl
@[go_sem] theorem tk43 : tk Tryd.prog 43 = .int .u64 := by kernel_rfl
attribute [go_sem] Tryd.underlying43
@[go_sem] theorem zr43 : zro Tryd.prog 43 = some [.pv (.int .u64 0)] := by kernel_rfl
@[go_sem] theorem sz45 : szOf Tryd.prog 45 = 5 := by kernel_rfl
@[go_sem] theorem by45 : byOf Tryd.prog 45 = 40 := by kernel_rfl
@[go_sem] theorem ag45 : agOf Tryd.prog 45 = 2 := by kernel_rfl
@[go_sem] theorem tk45 : tk Tryd.prog 45 = .strct [(3, 0, 1, false), (3, 1, 1, false), (3, 2, 1, false), (3, 3, 1, false), (43, 4, 1, false)] := by kernel_rfl
attribute [go_sem] Tryd.underlying45
@[go_sem] theorem zr45 : zro Tryd.prog 45 = some [.pv (.int .i64 0), .pv (.int .i64 0), .pv (.int .i64 0), .pv (.int .i64 0), .pv (.int .u64 0)] := by kernel_rfl
@[go_sem] theorem sz46 : szOf Tryd.prog 46 = 5 := by kernel_rfl
@[go_sem] theorem by46 : byOf Tryd.prog 46 = 40 := by kernel_rfl
@[go_sem] theorem ag46 : agOf Tryd.prog 46 = 2 := by kernel_rfl
@[go_sem] theorem tk46 : tk Tryd.prog 46 = .strct [(3, 0, 1, false), (3, 1, 1, false), (3, 2, 1, false), (3, 3, 1, false), (43, 4, 1, false)] := by kernel_rfl
attribute [go_sem] Tryd.underlying46
@[go_sem] theorem eqt46 : eqT Tryd.prog 46 = some [0, 0, 0, 0, 0] := by kernel_rfl
@[go_sem] theorem zr46 : zro Tryd.prog 46 = some [.pv (.int .i64 0), .pv (.int .i64 0), .pv (.int .i64 0), .pv (.int .i64 0), .pv (.int .u64 0)] := by kernel_rfl
@[go_sem] theorem sz47 : szOf Tryd.prog 47 = 3 := by kernel_rfl
@[go_sem] theorem by47 : byOf Tryd.prog 47 = 24 := by kernel_rfl
@[go_sem] theorem ag47 : agOf Tryd.prog 47 = 2 := by kernel_rfl
@[go_sem] theorem tk47 : tk Tryd.prog 47 = .strct [(3, 0, 1, false), (3, 1, 1, false), (29, 2, 1, false)] := by kernel_rfl
attribute [go_sem] Tryd.underlying47
@[go_sem] theorem zr47 : zro Tryd.prog 47 = some [.pv (.int .i64 0), .pv (.int .i64 0), .pv (.int .i64 0)] := by kernel_rfl
@[go_sem] theorem sz48 : szOf Tryd.prog 48 = 3 := by kernel_rfl
@[go_sem] theorem by48 : byOf Tryd.prog 48 = 24 := by kernel_rfl
@[go_sem] theorem ag48 : agOf Tryd.prog 48 = 2 := by kernel_rfl
@[go_sem] theorem tk48 : tk Tryd.prog 48 = .strct [(3, 0, 1, false), (3, 1, 1, false), (29, 2, 1, false)] := by kernel_rfl
attribute [go_sem] Tryd.underlying48
@[go_sem] theorem zr48 : zro Tryd.prog 48 = some [.pv (.int .i64 0), .pv (.int .i64 0), .pv (.int .i64 0)] := by kernel_rfl
@[go_sem] theorem sz50 : szOf Tryd.prog 50 = 1 := by kernel_rfl
@[go_sem] theorem by50 : byOf Tryd.prog 50 = 16 := by kernel_rfl
@[go_sem] theorem ag50 : agOf Tryd.prog 50 = 1 := by kernel_rfl
@[go_sem] theorem tk50 : tk Tryd.prog 50 = .other := by kernel_rfl
attribute [go_sem] Tryd.underlying50
@[go_sem] theorem zr50 : zro Tryd.prog 50 = some [.pv .nilIfc] := by kernel_rfl
@[go_sem] theorem sz51 : szOf Tryd.prog 51 = 1 := by kernel_rfl
@[go_sem] theorem by51 : byOf Tryd.prog 51 = 16 := by kernel_rfl
@[go_sem] theorem ag51 : agOf Tryd.prog 51 = 1 := by kernel_rfl
@[go_sem] theorem tk51 : tk Tryd.prog 51 = .other := by kernel_rfl
attribute [go_sem] Tryd.underlying51
@[go_sem] theorem zr51 : zro Tryd.prog 51 = some [.pv .nilIfc] := by kernel_rfl
@[go_sem] theorem sz53 : szOf Tryd.prog 53 = 1 := by kernel_rfl
@[go_sem] theorem by53 : byOf Tryd.prog 53 = 8 := by kernel_rfl
@[go_sem] theorem ag53 : agOf Tryd.prog 53 = 1 := by kernel_rfl
@[go_sem] theorem tk53 : tk Tryd.prog 53 = .other := by kernel_rfl
attribute [go_sem] Tryd.underlying53
@[go_sem] theorem zr53 : zro Tryd.prog 53 = some [.pv .nilPtr] := by kernel_rfl
@[go_sem] theorem sz58 : szOf Tryd.prog 58 = 1 := by kernel_rfl
@[go_sem] theorem by58 : byOf Tryd.prog 58 = 24 := by kernel_rfl
@[go_sem] theorem ag58 : agOf Tryd.prog 58 = 1 := by kernel_rfl
@[go_sem] theorem tk58 : tk Tryd.prog 58 = .slice 5 1 1 := by kernel_rfl
attribute [go_sem] Tryd.underlying58
@[go_sem] theorem zr58 : zro Tryd.prog 58 = some [.pv (.lst true 0 [])] := by kernel_rfl
@[go_sem] theorem sz60 : szOf Tryd.prog 60 = 1 := by kernel_rfl
@[go_sem] theorem by60 : byOf Tryd.prog 60 = 8 := by kernel_rfl
@[go_sem] theorem ag60 : agOf Tryd.prog 60 = 1 := by kernel_rfl
@[go_sem] theorem tk60 : tk Tryd.prog 60 = .other := by kernel_rfl
attribute [go_sem] Tryd.underlying60
@[go_sem] theorem zr60 : zro Tryd.prog 60 = some [.pv .nilPtr] := by kernel_rfl
@[go_sem] theorem sz61 : szOf Tryd.prog 61 = 1 := by kernel_rfl
@[go_sem] theorem by61 : byOf Tryd.prog 61 = 8 := by kernel_rfl
@[go_sem] theorem ag61 : agOf Tryd.prog 61 = 1 := by kernel_rfl
@[go_sem] theorem tk61 : tk Tryd.prog 61 = .int .u64 := by kernel_rfl
attribute [go_sem] Tryd.underlying61
@[go_sem] theorem zr61 : zro Tryd.prog 61 = some [.pv (.int .u64 0)] := by kernel_rfl
@[go_sem] theorem sz62 : szOf Tryd.prog 62 = 3 := by kernel_rfl
@[go_sem] theorem by62 : byOf Tryd.prog 62 = 24 := by kernel_rfl
@[go_sem] theorem ag62 : agOf Tryd.prog 62 = 2 := by kernel_rfl
@[go_sem] theorem tk62 : tk Tryd.prog 62 = .strct [(17, 0, 1, false), (60, 1, 1, false), (61, 2, 1, false)] := by kernel_rfl
attribute [go_sem] Tryd.underlying62
@[go_sem] theorem zr62 : zro Tryd.prog 62 = some [.pv .nilPtr, .pv .nilPtr, .pv (.int .u64 0)] := by kernel_rfl
@[go_sem] theorem sz63 : szOf Tryd.prog 63 = 3 := by kernel_rfl
@[go_sem] theorem by63 : byOf Tryd.prog 63 = 24 := by kernel_rfl
@[go_sem] theorem ag63 : agOf Tryd.prog 63 = 2 := by kernel_rfl
@[go_sem] theorem tk63 : tk Tryd.prog 63 = .strct [(17, 0, 1, false), (60, 1, 1, false), (61, 2, 1, false)] := by kernel_rfl
attribute [go_sem] Tryd.underlying63
@[go_sem] theorem zr63 : zro Tryd.prog 63 = some [.pv .nilPtr, .pv .nilPtr, .pv (.int .u64 0)] := by kernel_rfl
@[go_sem] theorem sz65 : szOf Tryd.prog 65 = 1 := by kernel_rfl
@[go_sem] theorem by65 : byOf Tryd.prog 65 = 16 := by kernel_rfl
@[go_sem] theorem ag65 : agOf Tryd.prog 65 = 1 := by kernel_rfl
@[go_sem] theorem tk65 : tk Tryd.prog 65 = .other := by kernel_rfl
attribute [go_sem] Tryd.underlying65
@[go_sem] theorem zr65 : zro Tryd.prog 65 = some [.pv .nilIfc] := by kernel_rfl
@[go_sem] theorem sz66 : szOf Tryd.prog 66 = 1 := by kernel_rfl
@[go_sem] theorem by66 : byOf Tryd.prog 66 = 16 := by kernel_rfl
@[go_sem] theorem ag66 : agOf Tryd.prog 66 = 1 := by kernel_rfl
@[go_sem] theorem tk66 : tk Tryd.prog 66 = .other := by kernel_rfl
attribute [go_sem] Tryd.underlying66
@[go_sem] theorem zr66 : zro Tryd.prog 66 = some [.pv .nilIfc] := by kernel_rfl
@[go_sem] theorem sz68 : szOf Tryd.prog 68 = 1 := by kernel_rfl
@[go_sem] theorem by68 : byOf Tryd.prog 68 = 1 := by kernel_rfl
@[go_sem] theorem ag68 : agOf Tryd.prog 68 = 1 := by kernel_rfl
@[go_sem] theorem tk68 : tk Tryd.prog 68 = .int .u8 := by kernel_rfl
attribute [go_sem] Tryd.underlying68
@[go_sem] theorem zr68 : zro Tryd.prog 68 = some [.pv (.int .u8 0)] := by kernel_rfl
@[go_sem] theorem sz74 : szOf Tryd.prog 74 = 1 := by kernel_rfl
@[go_sem] theorem by74 : byOf Tryd.prog 74 = 8 := by kernel_rfl
@[go_sem] theorem ag74 : agOf Tryd.prog 74 = 1 := by kernel_rfl
@[go_sem] theorem tk74 : tk Tryd.prog 74 = .other := by kernel_rfl
attribute [go_sem] Tryd.underlying74
@[go_sem] theorem zr74 : zro Tryd.prog 74 = some [.pv .nilPtr] := by kernel_rfl
@[go_sem] theorem sz75 : szOf Tryd.prog 75 = 2 := by kernel_rfl
@[go_sem] theorem by75 : byOf Tryd.prog 75 = 24 := by kernel_rfl
@[go_sem] theorem ag75 : agOf Tryd.prog 75 = 2 := by kernel_rfl
@[go_sem] theorem tk75 : tk Tryd.prog 75 = .strct [(9, 0, 1, false), (4, 1, 1, false)] := by kernel_rfl
attribute [go_sem] Tryd.underlying75
@[go_sem] theorem zr75 : zro Tryd.prog 75 = some [.pv (.str ⟨#[]⟩), .pv (.bool false)] := by kernel_rfl
@[go_sem] theorem sz76 : szOf Tryd.prog 76 = 2 := by kernel_rfl
@[go_sem] theorem by76 : byOf Tryd.prog 76 = 24 := by kernel_rfl
@[go_sem] theorem ag76 : agOf Tryd.prog 76 = 2 := by kernel_rfl
@[go_sem] theorem tk76 : tk Tryd.prog 76 = .strct [(9, 0, 1, false), (4, 1, 1, false)] := by kernel_rfl
attribute [go_sem] Tryd.underlying76
@[go_sem] theorem zr76 : zro Tryd.prog 76 = some [.pv (.str ⟨#[]⟩), .pv (.bool false)] := by kernel_rfl
@[go_sem] theorem sz80 : szOf Tryd.prog 80 = 1 := by kernel_rfl
@[go_sem] theorem by80 : byOf Tryd.prog 80 = 24 := by kernel_rfl
@[go_sem] theorem ag80 : agOf Tryd.prog 80 = 1 := by kernel_rfl
@[go_sem] theorem tk80 : tk Tryd.prog 80 = .slice 3 1 8 := by kernel_rfl
attribute [go_sem] Tryd.underlying80
@[go_sem] theorem zr80 : zro Tryd.prog 80 = some [.pv (.lst true 0 [])] := by kernel_rfl
@[go_sem] theorem sz81 : szOf Tryd.prog 81 = 1 := by kernel_rfl
@[go_sem] theorem by81 : byOf Tryd.prog 81 = 8 := by kernel_rfl
@[go_sem] theorem ag81 : agOf Tryd.prog 81 = 2 := by kernel_rfl
@[go_sem] theorem tk81 : tk Tryd.prog 81 = .strct [(17, 0, 1, false)] := by kernel_rfl
attribute [go_sem] Tryd.underlying81
@[go_sem] theorem zr81 : zro Tryd.prog 81 = some [.pv .nilPtr] := by kernel_rfl
@[go_sem] theorem sz82 : szOf Tryd.prog 82 = 1 := by kernel_rfl
@[go_sem] theorem by82 : byOf Tryd.prog 82 = 8 := by kernel_rfl
@[go_sem] theorem ag82 : agOf Tryd.prog 82 = 2 := by kernel_rfl
@[go_sem] theorem tk82 : tk Tryd.prog 82 = .strct [(17, 0, 1, false)] := by kernel_rfl
attribute [go_sem] Tryd.underlying82
@[go_sem] theorem zr82 : zro Tryd.prog 82 = some [.pv .nilPtr] := by kernel_rfl
@[go_sem] theorem sz83 : szOf Tryd.prog 83 = 1 := by kernel_rfl
@[go_sem] theorem by83 : byOf Tryd.prog 83 = 8 := by kernel_rfl
@[go_sem] theorem ag83 : agOf Tryd.prog 83 = 1 := by kernel_rfl
@[go_sem] theorem tk83 : tk Tryd.prog 83 = .other := by kernel_rfl
attribute [go_sem] Tryd.underlying83
@[go_sem] theorem zr83 : zro Tryd.prog 83 = some [.pv .nilPtr] := by kernel_rfl
@[go_sem] theorem sz87 : szOf Tryd.prog 87 = 1 := by kernel_rfl
@[go_sem] theorem by87 : byOf Tryd.prog 87 = 16 := by kernel_rfl
@[go_sem] theorem ag87 : agOf Tryd.prog 87 = 1 := by kernel_rfl
@[go_sem] theorem tk87 : tk Tryd.prog 87 = .other := by kernel_rfl
attribute [go_sem] Tryd.underlying87
@[go_sem] theorem zr87 : zro Tryd.prog 87 = some [.pv .nilIfc] := by kernel_rfl
@[go_sem] theorem sz90 : szOf Tryd.prog 90 = 1 := by kernel_rfl
@[go_sem] theorem by90 : byOf Tryd.prog 90 = 16 := by kernel_rfl
@[go_sem] theorem ag90 : agOf Tryd.prog 90 = 1 := by kernel_rfl
@[go_sem] theorem tk90 : tk Tryd.prog 90 = .other := by kernel_rfl
attribute [go_sem] Tryd.underlying90
@[go_sem] theorem zr90 : zro Tryd.prog 90 = some [.pv .nilIfc] := by kernel_rfl
@[go_sem] theorem sz92 : szOf Tryd.prog 92 = 1 := by kernel_rfl
@[go_sem] theorem by92 : byOf Tryd.prog 92 = 16 := by kernel_rfl
@[go_sem] theorem ag92 : agOf Tryd.prog 92 = 1 := by kernel_rfl
@[go_sem] theorem tk92 : tk Tryd.prog 92 = .other := by kernel_rfl
attribute [go_sem] Tryd.underlying92
@[go_sem] theorem zr92 : zro Tryd.prog 92 = some [.pv .nilIfc] := by kernel_rfl
@[go_sem] theorem sz93 : szOf Tryd.prog 93 = 1 := by kernel_rfl
@[go_sem] theorem by93 : byOf Tryd.prog 93 = 24 := by kernel_rfl
@[go_sem] theorem ag93 : agOf Tryd.prog 93 = 1 := by kernel_rfl
@[go_sem] theorem tk93 : tk Tryd.prog 93 = .slice 51 1 16 := by kernel_rfl
attribute [go_sem] Tryd.underlying93
@[go_sem] theorem zr93 : zro Tryd.prog 93 = some [.pv (.lst true 0 [])] := by kernel_rfl
@[go_sem] theorem sz97 : szOf Tryd.prog 97 = 3 := by kernel_rfl
@[go_sem] theorem by97 : byOf Tryd.prog 97 = 24 := by kernel_rfl
@[go_sem] theorem ag97 : agOf Tryd.prog 97 = 2 := by kernel_rfl
@[go_sem] theorem tk97 : tk Tryd.prog 97 = .arr 3 3 1 false := by kernel_rfl
attribute [go_sem] Tryd.underlying97
@[go_sem] theorem zr97 : zro Tryd.prog 97 = some [.pv (.int .i64 0), .pv (.int .i64 0), .pv (.int .i64 0)] := by kernel_rfl
@[go_sem] theorem sz100 : szOf Tryd.prog 100 = 1 := by kernel_rfl
@[go_sem] theorem by100 : byOf Tryd.prog 100 = 8 := by kernel_rfl
@[go_sem] theorem ag100 : agOf Tryd.prog 100 = 1 := by kernel_rfl
@[go_sem] theorem tk100 : tk Tryd.prog 100 = .int .u64 := by kernel_rfl
attribute [go_sem] Tryd.underlying100
@[go_sem] theorem zr100 : zro Tryd.prog 100 = some [.pv (.int .u64 0)] := by kernel_rfl
@[go_sem] theorem sz102 : szOf Tryd.prog 102 = 1 := by kernel_rfl
@[go_sem] theorem by102 : byOf Tryd.prog 102 = 24 := by kernel_rfl
@[go_sem] theorem ag102 : agOf Tryd.prog 102 = 1 := by kernel_rfl
@[go_sem] theorem tk102 : tk Tryd.prog 102 = .slice 9 1 16 := by kernel_rfl
attribute [go_sem] Tryd.underlying102
@[go_sem] theorem zr102 : zro Tryd.prog 102 = some [.pv (.lst true 0 [])] := by kernel_rfl
@[go_sem] theorem sz103 : szOf Tryd.prog 103 = 2 := by kernel_rfl
@[go_sem] theorem by103 : byOf Tryd.prog 103 = 24 := by kernel_rfl
@[go_sem] theorem ag103 : agOf Tryd.prog 103 = 2 := by kernel_rfl
@[go_sem] theorem tk103 : tk Tryd.prog 103 = .strct [(9, 0, 1, false), (3, 1, 1, false)] := by kernel_rfl
attribute [go_sem] Tryd.underlying103
@[go_sem] theorem zr103 : zro Tryd.prog 103 = some [.pv (.str ⟨#[]⟩), .pv (.int .i64 0)] := by kernel_rfl
@[go_sem] theorem sz104 : szOf Tryd.prog 104 = 6 := by kernel_rfl
@[go_sem] theorem by104 : byOf Tryd.prog 104 = 72 := by kernel_rfl
@[go_sem] theorem ag104 : agOf Tryd.prog 104 = 2 := by kernel_rfl
@[go_sem] theorem tk104 : tk Tryd.prog 104 = .arr 3 103 2 true := by kernel_rfl
attribute [go_sem] Tryd.underlying104
@[go_sem] theorem zr104 : zro Tryd.prog 104 = some [.pv (.str ⟨#[]⟩), .pv (.int .i64 0), .pv (.str ⟨#[]⟩), .pv (.int .i64 0), .pv (.str ⟨#[]⟩), .pv (.int .i64 0)] := by kernel_rfl
@[go_sem] theorem sz106 : szOf Tryd.prog 106 = 15 := by kernel_rfl
@[go_sem] theorem by106 : byOf Tryd.prog 106 = 240 := by kernel_rfl
@[go_sem] theorem ag106 : agOf Tryd.prog 106 = 2 := by kernel_rfl
@[go_sem] theorem tk106 : tk Tryd.prog 106 = .arr 15 9 1 false := by kernel_rfl
attribute [go_sem] Tryd.underlying106
@[go_sem] theorem zr106 : zro Tryd.prog 106 = some [.pv (.str ⟨#[]⟩), .pv (.str ⟨#[]⟩), .pv (.str ⟨#[]⟩), .pv (.str ⟨#[]⟩), .pv (.str ⟨#[]⟩), .pv (.str ⟨#[]⟩), .pv (.str ⟨#[]⟩), .pv (.str ⟨#[]⟩), .pv (.str ⟨#[]⟩), .pv (.str ⟨#[]⟩), .pv (.str ⟨#[]⟩), .pv (.str ⟨#[]⟩), .pv (.str ⟨#[]⟩), .pv (.str ⟨#[]⟩), .pv (.str ⟨#[]⟩)] := by kernel_rfl
@[go_sem] theorem sz110 : szOf Tryd.prog 110 = 1 := by kernel_rfl
@[go_sem] theorem by110 : byOf Tryd.prog 110 = 4 := by kernel_rfl
@[go_sem] theorem ag110 : agOf Tryd.prog 110 = 1 := by kernel_rfl
@[go_sem] theorem tk110 : tk Tryd.prog 110 = .int .u32 := by kernel_rfl
attribute [go_sem] Tryd.underlying110
@[go_sem] theorem zr110 : zro Tryd.prog 110 = some [.pv (.int .u32 0)] := by kernel_rfl
@[go_sem] theorem sz114 : szOf Tryd.prog 114 = 4 := by kernel_rfl
@[go_sem] theorem by114 : byOf Tryd.prog 114 = 40 := by kernel_rfl
@[go_sem] theorem ag114 : agOf Tryd.prog 114 = 2 := by kernel_rfl
@[go_sem] theorem tk114 : tk Tryd.prog 114 = .strct [(17, 0, 1, false), (17, 1, 1, false), (17, 2, 1, false), (9, 3, 1, false)] := by kernel_rfl
attribute [go_sem] Tryd.underlying114
@[go_sem] theorem zr114 : zro Tryd.prog 114 = some [.pv .nilPtr, .pv .nilPtr, .pv .nilPtr, .pv (.str ⟨#[]⟩)] := by kernel_rfl
@[go_sem] theorem sz115 : szOf Tryd.prog 115 = 4 := by kernel_rfl
@[go_sem] theorem by115 : byOf Tryd.prog 115 = 40 := by kernel_rfl
@[go_sem] theorem ag115 : agOf Tryd.prog 115 = 2 := by kernel_rfl
@[go_sem] theorem tk115 : tk Tryd.prog 115 = .strct [(17, 0, 1, false), (17, 1, 1, false), (17, 2, 1, false), (9, 3, 1, false)] := by kernel_rfl
attribute [go_sem] Tryd.underlying115
@[go_sem] theorem zr115 : zro Tryd.prog 115 = some [.pv .nilPtr, .pv .nilPtr, .pv .nilPtr, .pv (.str ⟨#[]⟩)] := by kernel_rfl
@[go_sem] theorem sz116 : szOf Tryd.prog 116 = 0 := by kernel_rfl
@[go_sem] theorem by116 : byOf Tryd.prog 116 = 0 := by kernel_rfl
@[go_sem] theorem ag116 : agOf Tryd.prog 116 = 2 := by kernel_rfl
@[go_sem] theorem tk116 : tk Tryd.prog 116 = .arr 0 16 1 false := by kernel_rfl
attribute [go_sem] Tryd.underlying116
@[go_sem] theorem zr116 : zro Tryd.prog 116 = some [] := by kernel_rfl
@[go_sem] theorem sz117 : szOf Tryd.prog 117 = 0 := by kernel_rfl
@[go_sem] theorem by117 : byOf Tryd.prog 117 = 0 := by kernel_rfl
@[go_sem] theorem ag117 : agOf Tryd.prog 117 = 2 := by kernel_rfl
@[go_sem] theorem tk117 : tk Tryd.prog 117 = .strct [(116, 0, 0, true)] := by kernel_rfl
attribute [go_sem] Tryd.underlying117
@[go_sem] theorem zr117 : zro Tryd.prog 117 = some [] := by kernel_rfl
@[go_sem] theorem sz118 : szOf Tryd.prog 118 = 0 := by kernel_rfl
@[go_sem] theorem by118 : byOf Tryd.prog 118 = 0 := by kernel_rfl
@[go_sem] theorem ag118 : agOf Tryd.prog 118 = 2 := by kernel_rfl
@[go_sem] theorem tk118 : tk Tryd.prog 118 = .strct [(116, 0, 0, true)] := by kernel_rfl
attribute [go_sem] Tryd.underlying118
@[go_sem] theorem zr118 : zro Tryd.prog 118 = some [] := by kernel_rfl
@[go_sem] theorem sz120 : szOf Tryd.prog 120 = 1 := by kernel_rfl
@[go_sem] theorem by120 : byOf Tryd.prog 120 = 1 := by kernel_rfl
@[go_sem] theorem ag120 : agOf Tryd.prog 120 = 1 := by kernel_rfl
@[go_sem] theorem tk120 : tk Tryd.prog 120 = .int .u8 := by kernel_rfl
attribute [go_sem] Tryd.underlying120
@[go_sem] theorem zr120 : zro Tryd.prog 120 = some [.pv (.int .u8 0)] := by kernel_rfl
@[go_sem] theorem sz122 : szOf Tryd.prog 122 = 1 := by kernel_rfl
@[go_sem] theorem by122 : byOf Tryd.prog 122 = 8 := by kernel_rfl
@[go_sem] theorem ag122 : agOf Tryd.prog 122 = 1 := by kernel_rfl
@[go_sem] theorem tk122 : tk Tryd.prog 122 = .other := by kernel_rfl
attribute [go_sem] Tryd.underlying122
@[go_sem] theorem zr122 : zro Tryd.prog 122 = some [.pv .nilPtr] := by kernel_rfl
@[go_sem] theorem sz123 : szOf Tryd.prog 123 = 1 := by kernel_rfl
@[go_sem] theorem by123 : byOf Tryd.prog 123 = 4 := by kernel_rfl
@[go_sem] theorem ag123 : agOf Tryd.prog 123 = 1 := by kernel_rfl
@[go_sem] theorem tk123 : tk Tryd.prog 123 = .int .i32 := by kernel_rfl
attribute [go_sem] Tryd.underlying123
@[go_sem] theorem zr123 : zro Tryd.prog 123 = some [.pv (.int .i32 0)] := by kernel_rfl
@[go_sem] theorem sz124 : szOf Tryd.prog 124 = 1 := by kernel_rfl
@[go_sem] theorem by124 : byOf Tryd.prog 124 = 4 := by kernel_rfl
@[go_sem] theorem ag124 : agOf Tryd.prog 124 = 1 := by kernel_rfl
@[go_sem] theorem tk124 : tk Tryd.prog 124 = .int .i32 := by kernel_rfl
attribute [go_sem] Tryd.underlying124
@[go_sem] theorem zr124 : zro Tryd.prog 124 = some [.pv (.int .i32 0)] := by kernel_rfl
@[go_sem] theorem sz125 : szOf Tryd.prog 125 = 11 := by kernel_rfl
@[go_sem] theorem by125 : byOf Tryd.prog 125 = 48 := by kernel_rfl
@[go_sem] theorem ag125 : agOf Tryd.prog 125 = 2 := by kernel_rfl
@[go_sem] theorem tk125 : tk Tryd.prog 125 = .strct [(12, 0, 1, false), (12, 1, 1, false), (110, 2, 1, false), (120, 3, 1, false), (5, 4, 1, false), (5, 5, 1, false), (68, 6, 1, false), (121, 7, 1, false), (122, 8, 1, false), (123, 9, 1, false), (124, 10, 1, false)] := by kernel_rfl
attribute [go_sem] Tryd.underlying125
@[go_sem] theorem zr125 : zro Tryd.prog 125 = some [.pv (.int .u64 0), .pv (.int .u64 0), .pv (.int .u32 0), .pv (.int .u8 0), .pv (.int .u8 0), .pv (.int .u8 0), .pv (.int .u8 0), .pv .nilFn, .pv .nilPtr, .pv (.int .i32 0), .pv (.int .i32 0)] := by kernel_rfl
@[go_sem] theorem sz126 : szOf Tryd.prog 126 = 11 := by kernel_rfl
@[go_sem] theorem by126 : byOf Tryd.prog 126 = 48 := by kernel_rfl
@[go_sem] theorem ag126 : agOf Tryd.prog 126 = 2 := by kernel_rfl
@[go_sem] theorem tk126 : tk Tryd.prog 126 = .strct [(12, 0, 1, false), (12, 1, 1, false), (110, 2, 1, false), (120, 3, 1, false), (5, 4, 1, false), (5, 5, 1, false), (68, 6, 1, false), (121, 7, 1, false), (122, 8, 1, false), (123, 9, 1, false), (124, 10, 1, false)] := by kernel_rfl
attribute [go_sem] Tryd.underlying126
@[go_sem] theorem zr126 : zro Tryd.prog 126 = some [.pv (.int .u64 0), .pv (.int .u64 0), .pv (.int .u32 0), .pv (.int .u8 0), .pv (.int .u8 0), .pv (.int .u8 0), .pv (.int .u8 0), .pv .nilFn, .pv .nilPtr, .pv (.int .i32 0), .pv (.int .i32 0)] := by kernel_rfl
@[go_sem] theorem sz129 : szOf Tryd.prog 129 = 2 := by kernel_rfl
@[go_sem] theorem by129 : byOf Tryd.prog 129 = 24 := by kernel_rfl
@[go_sem] theorem ag129 : agOf Tryd.prog 129 = 2 := by kernel_rfl
@[go_sem] theorem tk129 : tk Tryd.prog 129 = .strct [(9, 0, 1, false), (68, 1, 1, false)] := by kernel_rfl
attribute [go_sem] Tryd.underlying129
@[go_sem] theorem zr129 : zro Tryd.prog 129 = some [.pv (.str ⟨#[]⟩), .pv (.int .u8 0)] := by kernel_rfl
@[go_sem] theorem sz130 : szOf Tryd.prog 130 = 2 := by kernel_rfl
@[go_sem] theorem by130 : byOf Tryd.prog 130 = 24 := by kernel_rfl
@[go_sem] theorem ag130 : agOf Tryd.prog 130 = 2 := by kernel_rfl
@[go_sem] theorem tk130 : tk Tryd.prog 130 = .strct [(9, 0, 1, false), (68, 1, 1, false)] := by kernel_rfl
attribute [go_sem] Tryd.underlying130
@[go_sem] theorem zr130 : zro Tryd.prog 130 = some [.pv (.str ⟨#[]⟩), .pv (.int .u8 0)] := by kernel_rfl
@[go_sem] theorem sz131 : szOf Tryd.prog 131 = 1 := by kernel_rfl
@[go_sem] theorem by131 : byOf Tryd.prog 131 = 8 := by kernel_rfl
@[go_sem] theorem ag131 : agOf Tryd.prog 131 = 1 := by kernel_rfl
@[go_sem] theorem tk131 : tk Tryd.prog 131 = .other := by kernel_rfl
attribute [go_sem] Tryd.underlying131
@[go_sem] theorem zr131 : zro Tryd.prog 131 = some [.pv .nilPtr] := by kernel_rfl
@[go_sem] theorem sz133 : szOf Tryd.prog 133 = 1 := by kernel_rfl
@[go_sem] theorem by133 : byOf Tryd.prog 133 = 2 := by kernel_rfl
@[go_sem] theorem ag133 : agOf Tryd.prog 133 = 1 := by kernel_rfl
@[go_sem] theorem tk133 : tk Tryd.prog 133 = .int .u16 := by kernel_rfl
attribute [go_sem] Tryd.underlying133
@[go_sem] theorem zr133 : zro Tryd.prog 133 = some [.pv (.int .u16 0)] := by kernel_rfl
@[go_sem] theorem sz134 : szOf Tryd.prog 134 = 5 := by kernel_rfl
@[go_sem] theorem by134 : byOf Tryd.prog 134 = 16 := by kernel_rfl
@[go_sem] theorem ag134 : agOf Tryd.prog 134 = 2 := by kernel_rfl
@[go_sem] theorem tk134 : tk Tryd.prog 134 = .strct [(123, 0, 1, false), (133, 1, 1, false), (133, 2, 1, false), (110, 3, 1, false), (110, 4, 1, false)] := by kernel_rfl
attribute [go_sem] Tryd.underlying134
@[go_sem] theorem zr134 : zro Tryd.prog 134 = some [.pv (.int .i32 0), .pv (.int .u16 0), .pv (.int .u16 0), .pv (.int .u32 0), .pv (.int .u32 0)] := by kernel_rfl
@[go_sem] theorem sz135 : szOf Tryd.prog 135 = 5 := by kernel_rfl
@[go_sem] theorem by135 : byOf Tryd.prog 135 = 16 := by kernel_rfl
@[go_sem] theorem ag135 : agOf Tryd.prog 135 = 2 := by kernel_rfl
@[go_sem] theorem tk135 : tk Tryd.prog 135 = .strct [(123, 0, 1, false), (133, 1, 1, false), (133, 2, 1, false), (110, 3, 1, false), (110, 4, 1, false)] := by kernel_rfl
attribute [go_sem] Tryd.underlying135
@[go_sem] theorem zr135 : zro Tryd.prog 135 = some [.pv (.int .i32 0), .pv (.int .u16 0), .pv (.int .u16 0), .pv (.int .u32 0), .pv (.int .u32 0)] := by kernel_rfl
@[go_sem] theorem sz136 : szOf Tryd.prog 136 = 1 := by kernel_rfl
@[go_sem] theorem by136 : byOf Tryd.prog 136 = 24 := by kernel_rfl
@[go_sem] theorem ag136 : agOf Tryd.prog 136 = 1 := by kernel_rfl
@[go_sem] theorem tk136 : tk Tryd.prog 136 = .slice 139 4 16 := by kernel_rfl
attribute [go_sem] Tryd.underlying136
@[go_sem] theorem zr136 : zro Tryd.prog 136 = some [.pv (.lst true 0 [])] := by kernel_rfl
@[go_sem] theorem sz137 : szOf Tryd.prog 137 = 1 := by kernel_rfl
@[go_sem] theorem by137 : byOf Tryd.prog 137 = 4 := by kernel_rfl
@[go_sem] theorem ag137 : agOf Tryd.prog 137 = 1 := by kernel_rfl
@[go_sem] theorem tk137 : tk Tryd.prog 137 = .int .i32 := by kernel_rfl
attribute [go_sem] Tryd.underlying137
@[go_sem] theorem zr137 : zro Tryd.prog 137 = some [.pv (.int .i32 0)] := by kernel_rfl
@[go_sem] theorem sz138 : szOf Tryd.prog 138 = 4 := by kernel_rfl
@[go_sem] theorem by138 : byOf Tryd.prog 138 = 16 := by kernel_rfl
@[go_sem] theorem ag138 : agOf Tryd.prog 138 = 2 := by kernel_rfl
@[go_sem] theorem tk138 : tk Tryd.prog 138 = .strct [(123, 0, 1, false), (124, 1, 1, false), (137, 2, 1, false), (137, 3, 1, false)] := by kernel_rfl
attribute [go_sem] Tryd.underlying138
@[go_sem] theorem zr138 : zro Tryd.prog 138 = some [.pv (.int .i32 0), .pv (.int .i32 0), .pv (.int .i32 0), .pv (.int .i32 0)] := by kernel_rfl
@[go_sem] theorem sz139 : szOf Tryd.prog 139 = 4 := by kernel_rfl
@[go_sem] theorem by139 : byOf Tryd.prog 139 = 16 := by kernel_rfl
@[go_sem] theorem ag139 : agOf Tryd.prog 139 = 2 := by kernel_rfl
@[go_sem] theorem tk139 : tk Tryd.prog 139 = .strct [(123, 0, 1, false), (124, 1, 1, false), (137, 2, 1, false), (137, 3, 1, false)] := by kernel_rfl
attribute [go_sem] Tryd.underlying139
@[go_sem] theorem zr139 : zro Tryd.prog 139 = some [.pv (.int .i32 0), .pv (.int .i32 0), .pv (.int .i32 0), .pv (.int .i32 0)] := by kernel_rfl
@[go_sem] theorem sz140 : szOf Tryd.prog 140 = 1 := by kernel_rfl
@[go_sem] theorem by140 : byOf Tryd.prog 140 = 8 := by kernel_rfl
@[go_sem] theorem ag140 : agOf Tryd.prog 140 = 1 := by kernel_rfl
@[go_sem] theorem tk140 : tk Tryd.prog 140 = .other := by kernel_rfl
attribute [go_sem] Tryd.underlying140
@[go_sem] theorem zr140 : zro Tryd.prog 140 = some [.pv .nilPtr] := by kernel_rfl
end Go.Ab.Tryd
