/- What the plain steps ask of the translation's types. Printed by tys.py out of the translation. -/
import Derived.Test.YtedgmllonkakjaaProg
import Derived.Test.YtedgmllonkakjaaB2
namespace Go.Ab.Try
open Go.Proofs
set_option maxRecDepth 100000

@[go_sem] theorem sz2 : szOf Try.prog 2 = 1 := by kernel_rfl
@[go_sem] theorem by2 : byOf Try.prog 2 = 8 := by kernel_rfl
@[go_sem] theorem ag2 : agOf Try.prog 2 = 1 := by kernel_rfl
@[go_sem] theorem tk2 : tk Try.prog 2 = .int .i64 := by kernel_rfl
@[go_sem] theorem zr2 : zro Try.prog 2 = some [.pv (.int .i64 0)] := by kernel_rfl
@[go_sem] theorem sz3 : szOf Try.prog 3 = 1 := by kernel_rfl
@[go_sem] theorem by3 : byOf Try.prog 3 = 8 := by kernel_rfl
@[go_sem] theorem ag3 : agOf Try.prog 3 = 1 := by kernel_rfl
@[go_sem] theorem tk3 : tk Try.prog 3 = .int .i64 := by kernel_rfl
@[go_sem] theorem zr3 : zro Try.prog 3 = some [.pv (.int .i64 0)] := by kernel_rfl
@[go_sem] theorem sz4 : szOf Try.prog 4 = 1 := by kernel_rfl
@[go_sem] theorem by4 : byOf Try.prog 4 = 1 := by kernel_rfl
@[go_sem] theorem ag4 : agOf Try.prog 4 = 1 := by kernel_rfl
@[go_sem] theorem tk4 : tk Try.prog 4 = .bool := by kernel_rfl
@[go_sem] theorem eqt4 : eqT Try.prog 4 = some [1] := by kernel_rfl
@[go_sem] theorem zr4 : zro Try.prog 4 = some [.pv (.bool false)] := by kernel_rfl
@[go_sem] theorem sz5 : szOf Try.prog 5 = 1 := by kernel_rfl
@[go_sem] theorem by5 : byOf Try.prog 5 = 1 := by kernel_rfl
@[go_sem] theorem ag5 : agOf Try.prog 5 = 1 := by kernel_rfl
@[go_sem] theorem tk5 : tk Try.prog 5 = .int .u8 := by kernel_rfl
@[go_sem] theorem zr5 : zro Try.prog 5 = some [.pv (.int .u8 0)] := by kernel_rfl
@[go_sem] theorem sz6 : szOf Try.prog 6 = 1 := by kernel_rfl
@[go_sem] theorem by6 : byOf Try.prog 6 = 1 := by kernel_rfl
@[go_sem] theorem ag6 : agOf Try.prog 6 = 1 := by kernel_rfl
@[go_sem] theorem tk6 : tk Try.prog 6 = .int .u8 := by kernel_rfl
@[go_sem] theorem zr6 : zro Try.prog 6 = some [.pv (.int .u8 0)] := by kernel_rfl
@[go_sem] theorem sz7 : szOf Try.prog 7 = 4 := by kernel_rfl
@[go_sem] theorem by7 : byOf Try.prog 7 = 24 := by kernel_rfl
@[go_sem] theorem ag7 : agOf Try.prog 7 = 2 := by kernel_rfl
@[go_sem] theorem tk7 : tk Try.prog 7 = .strct [(2, 0, 1, false), (3, 1, 1, false), (4, 2, 1, false), (6, 3, 1, false)] := by kernel_rfl
@[go_sem] theorem zr7 : zro Try.prog 7 = some [.pv (.int .i64 0), .pv (.int .i64 0), .pv (.bool false), .pv (.int .u8 0)] := by kernel_rfl
@[go_sem] theorem sz8 : szOf Try.prog 8 = 4 := by kernel_rfl
@[go_sem] theorem by8 : byOf Try.prog 8 = 24 := by kernel_rfl
@[go_sem] theorem ag8 : agOf Try.prog 8 = 2 := by kernel_rfl
@[go_sem] theorem tk8 : tk Try.prog 8 = .strct [(2, 0, 1, false), (3, 1, 1, false), (4, 2, 1, false), (6, 3, 1, false)] := by kernel_rfl
@[go_sem] theorem zr8 : zro Try.prog 8 = some [.pv (.int .i64 0), .pv (.int .i64 0), .pv (.bool false), .pv (.int .u8 0)] := by kernel_rfl
@[go_sem] theorem sz9 : szOf Try.prog 9 = 1 := by kernel_rfl
@[go_sem] theorem by9 : byOf Try.prog 9 = 16 := by kernel_rfl
@[go_sem] theorem ag9 : agOf Try.prog 9 = 1 := by kernel_rfl
@[go_sem] theorem tk9 : tk Try.prog 9 = .str := by kernel_rfl
@[go_sem] theorem zr9 : zro Try.prog 9 = some [.pv (.str ⟨#[]⟩)] := by kernel_rfl
@[go_sem] theorem sz10 : szOf Try.prog 10 = 1 := by kernel_rfl
@[go_sem] theorem by10 : byOf Try.prog 10 = 16 := by kernel_rfl
@[go_sem] theorem ag10 : agOf Try.prog 10 = 1 := by kernel_rfl
@[go_sem] theorem tk10 : tk Try.prog 10 = .str := by kernel_rfl
@[go_sem] theorem zr10 : zro Try.prog 10 = some [.pv (.str ⟨#[]⟩)] := by kernel_rfl
@[go_sem] theorem sz11 : szOf Try.prog 11 = 1 := by kernel_rfl
@[go_sem] theorem by11 : byOf Try.prog 11 = 16 := by kernel_rfl
@[go_sem] theorem ag11 : agOf Try.prog 11 = 1 := by kernel_rfl
@[go_sem] theorem tk11 : tk Try.prog 11 = .str := by kernel_rfl
@[go_sem] theorem zr11 : zro Try.prog 11 = some [.pv (.str ⟨#[]⟩)] := by kernel_rfl
@[go_sem] theorem sz12 : szOf Try.prog 12 = 1 := by kernel_rfl
@[go_sem] theorem by12 : byOf Try.prog 12 = 8 := by kernel_rfl
@[go_sem] theorem ag12 : agOf Try.prog 12 = 1 := by kernel_rfl
@[go_sem] theorem tk12 : tk Try.prog 12 = .int .u64 := by kernel_rfl
@[go_sem] theorem zr12 : zro Try.prog 12 = some [.pv (.int .u64 0)] := by kernel_rfl
@[go_sem] theorem sz13 : szOf Try.prog 13 = 2 := by kernel_rfl
@[go_sem] theorem by13 : byOf Try.prog 13 = 24 := by kernel_rfl
@[go_sem] theorem ag13 : agOf Try.prog 13 = 2 := by kernel_rfl
@[go_sem] theorem tk13 : tk Try.prog 13 = .strct [(9, 0, 1, false), (12, 1, 1, false)] := by kernel_rfl
@[go_sem] theorem zr13 : zro Try.prog 13 = some [.pv (.str ⟨#[]⟩), .pv (.int .u64 0)] := by kernel_rfl
@[go_sem] theorem sz14 : szOf Try.prog 14 = 2 := by kernel_rfl
@[go_sem] theorem by14 : byOf Try.prog 14 = 24 := by kernel_rfl
@[go_sem] theorem ag14 : agOf Try.prog 14 = 2 := by kernel_rfl
@[go_sem] theorem tk14 : tk Try.prog 14 = .strct [(9, 0, 1, false), (12, 1, 1, false)] := by kernel_rfl
@[go_sem] theorem zr14 : zro Try.prog 14 = some [.pv (.str ⟨#[]⟩), .pv (.int .u64 0)] := by kernel_rfl
@[go_sem] theorem sz15 : szOf Try.prog 15 = 1 := by kernel_rfl
@[go_sem] theorem by15 : byOf Try.prog 15 = 8 := by kernel_rfl
@[go_sem] theorem ag15 : agOf Try.prog 15 = 1 := by kernel_rfl
@[go_sem] theorem tk15 : tk Try.prog 15 = .other := by kernel_rfl
@[go_sem] theorem zr15 : zro Try.prog 15 = some [.pv .nilPtr] := by kernel_rfl
@[go_sem] theorem sz16 : szOf Try.prog 16 = 1 := by kernel_rfl
@[go_sem] theorem by16 : byOf Try.prog 16 = 8 := by kernel_rfl
@[go_sem] theorem ag16 : agOf Try.prog 16 = 1 := by kernel_rfl
@[go_sem] theorem tk16 : tk Try.prog 16 = .other := by kernel_rfl
@[go_sem] theorem zr16 : zro Try.prog 16 = some [.pv .nilPtr] := by kernel_rfl
@[go_sem] theorem sz17 : szOf Try.prog 17 = 1 := by kernel_rfl
@[go_sem] theorem by17 : byOf Try.prog 17 = 8 := by kernel_rfl
@[go_sem] theorem ag17 : agOf Try.prog 17 = 1 := by kernel_rfl
@[go_sem] theorem tk17 : tk Try.prog 17 = .other := by kernel_rfl
@[go_sem] theorem zr17 : zro Try.prog 17 = some [.pv .nilPtr] := by kernel_rfl
@[go_sem] theorem sz18 : szOf Try.prog 18 = 1 := by kernel_rfl
@[go_sem] theorem by18 : byOf Try.prog 18 = 8 := by kernel_rfl
@[go_sem] theorem ag18 : agOf Try.prog 18 = 2 := by kernel_rfl
@[go_sem] theorem tk18 : tk Try.prog 18 = .strct [(17, 0, 1, false)] := by kernel_rfl
@[go_sem] theorem zr18 : zro Try.prog 18 = some [.pv .nilPtr] := by kernel_rfl
@[go_sem] theorem sz19 : szOf Try.prog 19 = 1 := by kernel_rfl
@[go_sem] theorem by19 : byOf Try.prog 19 = 8 := by kernel_rfl
@[go_sem] theorem ag19 : agOf Try.prog 19 = 2 := by kernel_rfl
@[go_sem] theorem tk19 : tk Try.prog 19 = .strct [(17, 0, 1, false)] := by kernel_rfl
@[go_sem] theorem zr19 : zro Try.prog 19 = some [.pv .nilPtr] := by kernel_rfl
@[go_sem] theorem sz20 : szOf Try.prog 20 = 1 := by kernel_rfl
@[go_sem] theorem by20 : byOf Try.prog 20 = 16 := by kernel_rfl
@[go_sem] theorem ag20 : agOf Try.prog 20 = 1 := by kernel_rfl
@[go_sem] theorem tk20 : tk Try.prog 20 = .other := by kernel_rfl
@[go_sem] theorem zr20 : zro Try.prog 20 = some [.pv .nilIfc] := by kernel_rfl
@[go_sem] theorem sz21 : szOf Try.prog 21 = 1 := by kernel_rfl
@[go_sem] theorem by21 : byOf Try.prog 21 = 4 := by kernel_rfl
@[go_sem] theorem ag21 : agOf Try.prog 21 = 1 := by kernel_rfl
@[go_sem] theorem tk21 : tk Try.prog 21 = .int .i32 := by kernel_rfl
@[go_sem] theorem zr21 : zro Try.prog 21 = some [.pv (.int .i32 0)] := by kernel_rfl
@[go_sem] theorem sz22 : szOf Try.prog 22 = 1 := by kernel_rfl
@[go_sem] theorem by22 : byOf Try.prog 22 = 8 := by kernel_rfl
@[go_sem] theorem ag22 : agOf Try.prog 22 = 1 := by kernel_rfl
@[go_sem] theorem tk22 : tk Try.prog 22 = .int .u64 := by kernel_rfl
@[go_sem] theorem zr22 : zro Try.prog 22 = some [.pv (.int .u64 0)] := by kernel_rfl
@[go_sem] theorem sz28 : szOf Try.prog 28 = 2 := by kernel_rfl
@[go_sem] theorem by28 : byOf Try.prog 28 = 16 := by kernel_rfl
@[go_sem] theorem ag28 : agOf Try.prog 28 = 2 := by kernel_rfl
@[go_sem] theorem tk28 : tk Try.prog 28 = .strct [(22, 0, 1, false), (22, 1, 1, false)] := by kernel_rfl
@[go_sem] theorem zr28 : zro Try.prog 28 = some [.pv (.int .u64 0), .pv (.int .u64 0)] := by kernel_rfl
@[go_sem] theorem sz29 : szOf Try.prog 29 = 2 := by kernel_rfl
@[go_sem] theorem by29 : byOf Try.prog 29 = 16 := by kernel_rfl
@[go_sem] theorem ag29 : agOf Try.prog 29 = 2 := by kernel_rfl
@[go_sem] theorem tk29 : tk Try.prog 29 = .strct [(22, 0, 1, false), (22, 1, 1, false)] := by kernel_rfl
@[go_sem] theorem zr29 : zro Try.prog 29 = some [.pv (.int .u64 0), .pv (.int .u64 0)] := by kernel_rfl
@[go_sem] theorem sz30 : szOf Try.prog 30 = 1 := by kernel_rfl
@[go_sem] theorem by30 : byOf Try.prog 30 = 8 := by kernel_rfl
@[go_sem] theorem ag30 : agOf Try.prog 30 = 1 := by kernel_rfl
@[go_sem] theorem tk30 : tk Try.prog 30 = .int .i64 := by kernel_rfl
@[go_sem] theorem zr30 : zro Try.prog 30 = some [.pv (.int .i64 0)] := by kernel_rfl
@[go_sem] theorem sz49 : szOf Try.prog 49 = 1 := by kernel_rfl
@[go_sem] theorem by49 : byOf Try.prog 49 = 24 := by kernel_rfl
@[go_sem] theorem ag49 : agOf Try.prog 49 = 1 := by kernel_rfl
@[go_sem] theorem tk49 : tk Try.prog 49 = .slice 4 1 1 := by kernel_rfl
@[go_sem] theorem zr49 : zro Try.prog 49 = some [.pv (.lst true 0 [])] := by kernel_rfl
@[go_sem] theorem sz54 : szOf Try.prog 54 = 1 := by kernel_rfl
@[go_sem] theorem by54 : byOf Try.prog 54 = 24 := by kernel_rfl
@[go_sem] theorem ag54 : agOf Try.prog 54 = 1 := by kernel_rfl
@[go_sem] theorem tk54 : tk Try.prog 54 = .slice 68 1 24 := by kernel_rfl
@[go_sem] theorem zr54 : zro Try.prog 54 = some [.pv (.lst true 0 [])] := by kernel_rfl
@[go_sem] theorem sz68 : szOf Try.prog 68 = 1 := by kernel_rfl
@[go_sem] theorem by68 : byOf Try.prog 68 = 24 := by kernel_rfl
@[go_sem] theorem ag68 : agOf Try.prog 68 = 1 := by kernel_rfl
@[go_sem] theorem tk68 : tk Try.prog 68 = .slice 3 1 8 := by kernel_rfl
@[go_sem] theorem zr68 : zro Try.prog 68 = some [.pv (.lst true 0 [])] := by kernel_rfl
@[go_sem] theorem sz70 : szOf Try.prog 70 = 1 := by kernel_rfl
@[go_sem] theorem by70 : byOf Try.prog 70 = 24 := by kernel_rfl
@[go_sem] theorem ag70 : agOf Try.prog 70 = 1 := by kernel_rfl
@[go_sem] theorem tk70 : tk Try.prog 70 = .slice 107 5 40 := by kernel_rfl
@[go_sem] theorem zr70 : zro Try.prog 70 = some [.pv (.lst true 0 [])] := by kernel_rfl
@[go_sem] theorem sz75 : szOf Try.prog 75 = 1 := by kernel_rfl
@[go_sem] theorem by75 : byOf Try.prog 75 = 24 := by kernel_rfl
@[go_sem] theorem ag75 : agOf Try.prog 75 = 1 := by kernel_rfl
@[go_sem] theorem tk75 : tk Try.prog 75 = .slice 94 2 16 := by kernel_rfl
@[go_sem] theorem zr75 : zro Try.prog 75 = some [.pv (.lst true 0 [])] := by kernel_rfl
@[go_sem] theorem sz79 : szOf Try.prog 79 = 1 := by kernel_rfl
@[go_sem] theorem by79 : byOf Try.prog 79 = 24 := by kernel_rfl
@[go_sem] theorem ag79 : agOf Try.prog 79 = 1 := by kernel_rfl
@[go_sem] theorem tk79 : tk Try.prog 79 = .slice 5 1 1 := by kernel_rfl
@[go_sem] theorem zr79 : zro Try.prog 79 = some [.pv (.lst true 0 [])] := by kernel_rfl
@[go_sem] theorem sz80 : szOf Try.prog 80 = 1 := by kernel_rfl
@[go_sem] theorem by80 : byOf Try.prog 80 = 24 := by kernel_rfl
@[go_sem] theorem ag80 : agOf Try.prog 80 = 1 := by kernel_rfl
@[go_sem] theorem tk80 : tk Try.prog 80 = .slice 22 1 8 := by kernel_rfl
@[go_sem] theorem zr80 : zro Try.prog 80 = some [.pv (.lst true 0 [])] := by kernel_rfl
@[go_sem] theorem sz81 : szOf Try.prog 81 = 1 := by kernel_rfl
@[go_sem] theorem by81 : byOf Try.prog 81 = 24 := by kernel_rfl
@[go_sem] theorem ag81 : agOf Try.prog 81 = 1 := by kernel_rfl
@[go_sem] theorem tk81 : tk Try.prog 81 = .slice 139 3 24 := by kernel_rfl
@[go_sem] theorem zr81 : zro Try.prog 81 = some [.pv (.lst true 0 [])] := by kernel_rfl
@[go_sem] theorem sz82 : szOf Try.prog 82 = 3 := by kernel_rfl
@[go_sem] theorem by82 : byOf Try.prog 82 = 56 := by kernel_rfl
@[go_sem] theorem ag82 : agOf Try.prog 82 = 2 := by kernel_rfl
@[go_sem] theorem tk82 : tk Try.prog 82 = .strct [(80, 0, 1, false), (81, 1, 1, false), (3, 2, 1, false)] := by kernel_rfl
@[go_sem] theorem zr82 : zro Try.prog 82 = some [.pv (.lst true 0 []), .pv (.lst true 0 []), .pv (.int .i64 0)] := by kernel_rfl
@[go_sem] theorem sz83 : szOf Try.prog 83 = 3 := by kernel_rfl
@[go_sem] theorem by83 : byOf Try.prog 83 = 56 := by kernel_rfl
@[go_sem] theorem ag83 : agOf Try.prog 83 = 2 := by kernel_rfl
@[go_sem] theorem tk83 : tk Try.prog 83 = .strct [(80, 0, 1, false), (81, 1, 1, false), (3, 2, 1, false)] := by kernel_rfl
@[go_sem] theorem zr83 : zro Try.prog 83 = some [.pv (.lst true 0 []), .pv (.lst true 0 []), .pv (.int .i64 0)] := by kernel_rfl
@[go_sem] theorem sz84 : szOf Try.prog 84 = 8 := by kernel_rfl
@[go_sem] theorem by84 : byOf Try.prog 84 = 128 := by kernel_rfl
@[go_sem] theorem ag84 : agOf Try.prog 84 = 2 := by kernel_rfl
@[go_sem] theorem tk84 : tk Try.prog 84 = .strct [(70, 0, 1, false), (79, 1, 1, false), (83, 2, 3, true), (3, 5, 1, false), (3, 6, 1, false), (3, 7, 1, false)] := by kernel_rfl
@[go_sem] theorem zr84 : zro Try.prog 84 = some [.pv (.lst true 0 []), .pv (.lst true 0 []), .pv (.lst true 0 []), .pv (.lst true 0 []), .pv (.int .i64 0), .pv (.int .i64 0), .pv (.int .i64 0), .pv (.int .i64 0)] := by kernel_rfl
@[go_sem] theorem sz85 : szOf Try.prog 85 = 8 := by kernel_rfl
@[go_sem] theorem by85 : byOf Try.prog 85 = 128 := by kernel_rfl
@[go_sem] theorem ag85 : agOf Try.prog 85 = 2 := by kernel_rfl
@[go_sem] theorem tk85 : tk Try.prog 85 = .strct [(70, 0, 1, false), (79, 1, 1, false), (83, 2, 3, true), (3, 5, 1, false), (3, 6, 1, false), (3, 7, 1, false)] := by kernel_rfl
@[go_sem] theorem zr85 : zro Try.prog 85 = some [.pv (.lst true 0 []), .pv (.lst true 0 []), .pv (.lst true 0 []), .pv (.lst true 0 []), .pv (.int .i64 0), .pv (.int .i64 0), .pv (.int .i64 0), .pv (.int .i64 0)] := by kernel_rfl
@[go_sem] theorem sz87 : szOf Try.prog 87 = 8 := by kernel_rfl
@[go_sem] theorem by87 : byOf Try.prog 87 = 64 := by kernel_rfl
@[go_sem] theorem ag87 : agOf Try.prog 87 = 2 := by kernel_rfl
@[go_sem] theorem tk87 : tk Try.prog 87 = .arr 8 22 1 false := by kernel_rfl
@[go_sem] theorem zr87 : zro Try.prog 87 = some [.pv (.int .u64 0), .pv (.int .u64 0), .pv (.int .u64 0), .pv (.int .u64 0), .pv (.int .u64 0), .pv (.int .u64 0), .pv (.int .u64 0), .pv (.int .u64 0)] := by kernel_rfl
@[go_sem] theorem sz88 : szOf Try.prog 88 = 18 := by kernel_rfl
@[go_sem] theorem by88 : byOf Try.prog 88 = 192 := by kernel_rfl
@[go_sem] theorem ag88 : agOf Try.prog 88 = 2 := by kernel_rfl
@[go_sem] theorem tk88 : tk Try.prog 88 = .strct [(87, 0, 8, true), (80, 8, 1, false), (3, 9, 1, false), (3, 10, 1, false), (3, 11, 1, false), (3, 12, 1, false), (3, 13, 1, false), (22, 14, 1, false), (83, 15, 3, true)] := by kernel_rfl
@[go_sem] theorem zr88 : zro Try.prog 88 = some [.pv (.int .u64 0), .pv (.int .u64 0), .pv (.int .u64 0), .pv (.int .u64 0), .pv (.int .u64 0), .pv (.int .u64 0), .pv (.int .u64 0), .pv (.int .u64 0), .pv (.lst true 0 []), .pv (.int .i64 0), .pv (.int .i64 0), .pv (.int .i64 0), .pv (.int .i64 0), .pv (.int .i64 0), .pv (.int .u64 0), .pv (.lst true 0 []), .pv (.lst true 0 []), .pv (.int .i64 0)] := by kernel_rfl
@[go_sem] theorem sz89 : szOf Try.prog 89 = 18 := by kernel_rfl
@[go_sem] theorem by89 : byOf Try.prog 89 = 192 := by kernel_rfl
@[go_sem] theorem ag89 : agOf Try.prog 89 = 2 := by kernel_rfl
@[go_sem] theorem tk89 : tk Try.prog 89 = .strct [(87, 0, 8, true), (80, 8, 1, false), (3, 9, 1, false), (3, 10, 1, false), (3, 11, 1, false), (3, 12, 1, false), (3, 13, 1, false), (22, 14, 1, false), (83, 15, 3, true)] := by kernel_rfl
@[go_sem] theorem zr89 : zro Try.prog 89 = some [.pv (.int .u64 0), .pv (.int .u64 0), .pv (.int .u64 0), .pv (.int .u64 0), .pv (.int .u64 0), .pv (.int .u64 0), .pv (.int .u64 0), .pv (.int .u64 0), .pv (.lst true 0 []), .pv (.int .i64 0), .pv (.int .i64 0), .pv (.int .i64 0), .pv (.int .i64 0), .pv (.int .i64 0), .pv (.int .u64 0), .pv (.lst true 0 []), .pv (.lst true 0 []), .pv (.int .i64 0)] := by kernel_rfl
@[go_sem] theorem sz94 : szOf Try.prog 94 = 2 := by kernel_rfl
@[go_sem] theorem by94 : byOf Try.prog 94 = 16 := by kernel_rfl
@[go_sem] theorem ag94 : agOf Try.prog 94 = 2 := by kernel_rfl
@[go_sem] theorem tk94 : tk Try.prog 94 = .arr 2 3 1 false := by kernel_rfl
@[go_sem] theorem eqt94 : eqT Try.prog 94 = some [0, 0] := by kernel_rfl
@[go_sem] theorem zr94 : zro Try.prog 94 = some [.pv (.int .i64 0), .pv (.int .i64 0)] := by kernel_rfl
@[go_sem] theorem sz98 : szOf Try.prog 98 = 1 := by kernel_rfl
@[go_sem] theorem by98 : byOf Try.prog 98 = 8 := by kernel_rfl
@[go_sem] theorem ag98 : agOf Try.prog 98 = 1 := by kernel_rfl
@[go_sem] theorem tk98 : tk Try.prog 98 = .int .u64 := by kernel_rfl
@[go_sem] theorem zr98 : zro Try.prog 98 = some [.pv (.int .u64 0)] := by kernel_rfl
@[go_sem] theorem sz99 : szOf Try.prog 99 = 2 := by kernel_rfl
@[go_sem] theorem by99 : byOf Try.prog 99 = 16 := by kernel_rfl
@[go_sem] theorem ag99 : agOf Try.prog 99 = 2 := by kernel_rfl
@[go_sem] theorem tk99 : tk Try.prog 99 = .strct [(3, 0, 1, false), (4, 1, 1, false)] := by kernel_rfl
@[go_sem] theorem zr99 : zro Try.prog 99 = some [.pv (.int .i64 0), .pv (.bool false)] := by kernel_rfl
@[go_sem] theorem sz100 : szOf Try.prog 100 = 2 := by kernel_rfl
@[go_sem] theorem by100 : byOf Try.prog 100 = 16 := by kernel_rfl
@[go_sem] theorem ag100 : agOf Try.prog 100 = 2 := by kernel_rfl
@[go_sem] theorem tk100 : tk Try.prog 100 = .strct [(3, 0, 1, false), (4, 1, 1, false)] := by kernel_rfl
@[go_sem] theorem eqt100 : eqT Try.prog 100 = some [0, 1] := by kernel_rfl
@[go_sem] theorem zr100 : zro Try.prog 100 = some [.pv (.int .i64 0), .pv (.bool false)] := by kernel_rfl
@[go_sem] theorem sz106 : szOf Try.prog 106 = 5 := by kernel_rfl
@[go_sem] theorem by106 : byOf Try.prog 106 = 40 := by kernel_rfl
@[go_sem] theorem ag106 : agOf Try.prog 106 = 2 := by kernel_rfl
@[go_sem] theorem tk106 : tk Try.prog 106 = .strct [(3, 0, 1, false), (3, 1, 1, false), (3, 2, 1, false), (3, 3, 1, false), (22, 4, 1, false)] := by kernel_rfl
@[go_sem] theorem zr106 : zro Try.prog 106 = some [.pv (.int .i64 0), .pv (.int .i64 0), .pv (.int .i64 0), .pv (.int .i64 0), .pv (.int .u64 0)] := by kernel_rfl
@[go_sem] theorem sz107 : szOf Try.prog 107 = 5 := by kernel_rfl
@[go_sem] theorem by107 : byOf Try.prog 107 = 40 := by kernel_rfl
@[go_sem] theorem ag107 : agOf Try.prog 107 = 2 := by kernel_rfl
@[go_sem] theorem tk107 : tk Try.prog 107 = .strct [(3, 0, 1, false), (3, 1, 1, false), (3, 2, 1, false), (3, 3, 1, false), (22, 4, 1, false)] := by kernel_rfl
@[go_sem] theorem zr107 : zro Try.prog 107 = some [.pv (.int .i64 0), .pv (.int .i64 0), .pv (.int .i64 0), .pv (.int .i64 0), .pv (.int .u64 0)] := by kernel_rfl
@[go_sem] theorem sz111 : szOf Try.prog 111 = 1 := by kernel_rfl
@[go_sem] theorem by111 : byOf Try.prog 111 = 8 := by kernel_rfl
@[go_sem] theorem ag111 : agOf Try.prog 111 = 1 := by kernel_rfl
@[go_sem] theorem tk111 : tk Try.prog 111 = .other := by kernel_rfl
@[go_sem] theorem zr111 : zro Try.prog 111 = some [.pv .nilMap] := by kernel_rfl
@[go_sem] theorem sz133 : szOf Try.prog 133 = 2 := by kernel_rfl
@[go_sem] theorem by133 : byOf Try.prog 133 = 24 := by kernel_rfl
@[go_sem] theorem ag133 : agOf Try.prog 133 = 2 := by kernel_rfl
@[go_sem] theorem tk133 : tk Try.prog 133 = .strct [(9, 0, 1, false), (3, 1, 1, false)] := by kernel_rfl
@[go_sem] theorem zr133 : zro Try.prog 133 = some [.pv (.str ⟨#[]⟩), .pv (.int .i64 0)] := by kernel_rfl
@[go_sem] theorem sz134 : szOf Try.prog 134 = 6 := by kernel_rfl
@[go_sem] theorem by134 : byOf Try.prog 134 = 72 := by kernel_rfl
@[go_sem] theorem ag134 : agOf Try.prog 134 = 2 := by kernel_rfl
@[go_sem] theorem tk134 : tk Try.prog 134 = .arr 3 133 2 true := by kernel_rfl
@[go_sem] theorem zr134 : zro Try.prog 134 = some [.pv (.str ⟨#[]⟩), .pv (.int .i64 0), .pv (.str ⟨#[]⟩), .pv (.int .i64 0), .pv (.str ⟨#[]⟩), .pv (.int .i64 0)] := by kernel_rfl
@[go_sem] theorem sz136 : szOf Try.prog 136 = 3 := by kernel_rfl
@[go_sem] theorem by136 : byOf Try.prog 136 = 24 := by kernel_rfl
@[go_sem] theorem ag136 : agOf Try.prog 136 = 2 := by kernel_rfl
@[go_sem] theorem tk136 : tk Try.prog 136 = .arr 3 3 1 false := by kernel_rfl
@[go_sem] theorem zr136 : zro Try.prog 136 = some [.pv (.int .i64 0), .pv (.int .i64 0), .pv (.int .i64 0)] := by kernel_rfl
@[go_sem] theorem sz138 : szOf Try.prog 138 = 3 := by kernel_rfl
@[go_sem] theorem by138 : byOf Try.prog 138 = 24 := by kernel_rfl
@[go_sem] theorem ag138 : agOf Try.prog 138 = 2 := by kernel_rfl
@[go_sem] theorem tk138 : tk Try.prog 138 = .strct [(3, 0, 1, false), (22, 1, 1, false), (3, 2, 1, false)] := by kernel_rfl
@[go_sem] theorem zr138 : zro Try.prog 138 = some [.pv (.int .i64 0), .pv (.int .u64 0), .pv (.int .i64 0)] := by kernel_rfl
@[go_sem] theorem sz139 : szOf Try.prog 139 = 3 := by kernel_rfl
@[go_sem] theorem by139 : byOf Try.prog 139 = 24 := by kernel_rfl
@[go_sem] theorem ag139 : agOf Try.prog 139 = 2 := by kernel_rfl
@[go_sem] theorem tk139 : tk Try.prog 139 = .strct [(3, 0, 1, false), (22, 1, 1, false), (3, 2, 1, false)] := by kernel_rfl
@[go_sem] theorem zr139 : zro Try.prog 139 = some [.pv (.int .i64 0), .pv (.int .u64 0), .pv (.int .i64 0)] := by kernel_rfl
@[go_sem] theorem sz141 : szOf Try.prog 141 = 15 := by kernel_rfl
@[go_sem] theorem by141 : byOf Try.prog 141 = 240 := by kernel_rfl
@[go_sem] theorem ag141 : agOf Try.prog 141 = 2 := by kernel_rfl
@[go_sem] theorem tk141 : tk Try.prog 141 = .arr 15 9 1 false := by kernel_rfl
@[go_sem] theorem zr141 : zro Try.prog 141 = some [.pv (.str ⟨#[]⟩), .pv (.str ⟨#[]⟩), .pv (.str ⟨#[]⟩), .pv (.str ⟨#[]⟩), .pv (.str ⟨#[]⟩), .pv (.str ⟨#[]⟩), .pv (.str ⟨#[]⟩), .pv (.str ⟨#[]⟩), .pv (.str ⟨#[]⟩), .pv (.str ⟨#[]⟩), .pv (.str ⟨#[]⟩), .pv (.str ⟨#[]⟩), .pv (.str ⟨#[]⟩), .pv (.str ⟨#[]⟩), .pv (.str ⟨#[]⟩)] := by kernel_rfl
@[go_sem] theorem sz143 : szOf Try.prog 143 = 1 := by kernel_rfl
@[go_sem] theorem by143 : byOf Try.prog 143 = 24 := by kernel_rfl
@[go_sem] theorem ag143 : agOf Try.prog 143 = 1 := by kernel_rfl
@[go_sem] theorem tk143 : tk Try.prog 143 = .slice 9 1 16 := by kernel_rfl
@[go_sem] theorem zr143 : zro Try.prog 143 = some [.pv (.lst true 0 [])] := by kernel_rfl
@[go_sem] theorem sz145 : szOf Try.prog 145 = 1 := by kernel_rfl
@[go_sem] theorem by145 : byOf Try.prog 145 = 4 := by kernel_rfl
@[go_sem] theorem ag145 : agOf Try.prog 145 = 1 := by kernel_rfl
@[go_sem] theorem tk145 : tk Try.prog 145 = .int .u32 := by kernel_rfl
@[go_sem] theorem zr145 : zro Try.prog 145 = some [.pv (.int .u32 0)] := by kernel_rfl
@[go_sem] theorem sz149 : szOf Try.prog 149 = 4 := by kernel_rfl
@[go_sem] theorem by149 : byOf Try.prog 149 = 40 := by kernel_rfl
@[go_sem] theorem ag149 : agOf Try.prog 149 = 2 := by kernel_rfl
@[go_sem] theorem tk149 : tk Try.prog 149 = .strct [(17, 0, 1, false), (17, 1, 1, false), (17, 2, 1, false), (9, 3, 1, false)] := by kernel_rfl
@[go_sem] theorem zr149 : zro Try.prog 149 = some [.pv .nilPtr, .pv .nilPtr, .pv .nilPtr, .pv (.str ⟨#[]⟩)] := by kernel_rfl
@[go_sem] theorem sz150 : szOf Try.prog 150 = 4 := by kernel_rfl
@[go_sem] theorem by150 : byOf Try.prog 150 = 40 := by kernel_rfl
@[go_sem] theorem ag150 : agOf Try.prog 150 = 2 := by kernel_rfl
@[go_sem] theorem tk150 : tk Try.prog 150 = .strct [(17, 0, 1, false), (17, 1, 1, false), (17, 2, 1, false), (9, 3, 1, false)] := by kernel_rfl
@[go_sem] theorem zr150 : zro Try.prog 150 = some [.pv .nilPtr, .pv .nilPtr, .pv .nilPtr, .pv (.str ⟨#[]⟩)] := by kernel_rfl
@[go_sem] theorem sz151 : szOf Try.prog 151 = 0 := by kernel_rfl
@[go_sem] theorem by151 : byOf Try.prog 151 = 0 := by kernel_rfl
@[go_sem] theorem ag151 : agOf Try.prog 151 = 2 := by kernel_rfl
@[go_sem] theorem tk151 : tk Try.prog 151 = .arr 0 16 1 false := by kernel_rfl
@[go_sem] theorem zr151 : zro Try.prog 151 = some [] := by kernel_rfl
@[go_sem] theorem sz152 : szOf Try.prog 152 = 0 := by kernel_rfl
@[go_sem] theorem by152 : byOf Try.prog 152 = 0 := by kernel_rfl
@[go_sem] theorem ag152 : agOf Try.prog 152 = 2 := by kernel_rfl
@[go_sem] theorem tk152 : tk Try.prog 152 = .strct [(151, 0, 0, true)] := by kernel_rfl
@[go_sem] theorem zr152 : zro Try.prog 152 = some [] := by kernel_rfl
@[go_sem] theorem sz153 : szOf Try.prog 153 = 0 := by kernel_rfl
@[go_sem] theorem by153 : byOf Try.prog 153 = 0 := by kernel_rfl
@[go_sem] theorem ag153 : agOf Try.prog 153 = 2 := by kernel_rfl
@[go_sem] theorem tk153 : tk Try.prog 153 = .strct [(151, 0, 0, true)] := by kernel_rfl
@[go_sem] theorem zr153 : zro Try.prog 153 = some [] := by kernel_rfl
@[go_sem] theorem sz155 : szOf Try.prog 155 = 1 := by kernel_rfl
@[go_sem] theorem by155 : byOf Try.prog 155 = 1 := by kernel_rfl
@[go_sem] theorem ag155 : agOf Try.prog 155 = 1 := by kernel_rfl
@[go_sem] theorem tk155 : tk Try.prog 155 = .int .u8 := by kernel_rfl
@[go_sem] theorem zr155 : zro Try.prog 155 = some [.pv (.int .u8 0)] := by kernel_rfl
@[go_sem] theorem sz156 : szOf Try.prog 156 = 1 := by kernel_rfl
@[go_sem] theorem by156 : byOf Try.prog 156 = 1 := by kernel_rfl
@[go_sem] theorem ag156 : agOf Try.prog 156 = 1 := by kernel_rfl
@[go_sem] theorem tk156 : tk Try.prog 156 = .int .u8 := by kernel_rfl
@[go_sem] theorem zr156 : zro Try.prog 156 = some [.pv (.int .u8 0)] := by kernel_rfl
@[go_sem] theorem sz158 : szOf Try.prog 158 = 1 := by kernel_rfl
@[go_sem] theorem by158 : byOf Try.prog 158 = 8 := by kernel_rfl
@[go_sem] theorem ag158 : agOf Try.prog 158 = 1 := by kernel_rfl
@[go_sem] theorem tk158 : tk Try.prog 158 = .other := by kernel_rfl
@[go_sem] theorem zr158 : zro Try.prog 158 = some [.pv .nilPtr] := by kernel_rfl
@[go_sem] theorem sz159 : szOf Try.prog 159 = 1 := by kernel_rfl
@[go_sem] theorem by159 : byOf Try.prog 159 = 4 := by kernel_rfl
@[go_sem] theorem ag159 : agOf Try.prog 159 = 1 := by kernel_rfl
@[go_sem] theorem tk159 : tk Try.prog 159 = .int .i32 := by kernel_rfl
@[go_sem] theorem zr159 : zro Try.prog 159 = some [.pv (.int .i32 0)] := by kernel_rfl
@[go_sem] theorem sz160 : szOf Try.prog 160 = 1 := by kernel_rfl
@[go_sem] theorem by160 : byOf Try.prog 160 = 4 := by kernel_rfl
@[go_sem] theorem ag160 : agOf Try.prog 160 = 1 := by kernel_rfl
@[go_sem] theorem tk160 : tk Try.prog 160 = .int .i32 := by kernel_rfl
@[go_sem] theorem zr160 : zro Try.prog 160 = some [.pv (.int .i32 0)] := by kernel_rfl
@[go_sem] theorem sz161 : szOf Try.prog 161 = 11 := by kernel_rfl
@[go_sem] theorem by161 : byOf Try.prog 161 = 48 := by kernel_rfl
@[go_sem] theorem ag161 : agOf Try.prog 161 = 2 := by kernel_rfl
@[go_sem] theorem tk161 : tk Try.prog 161 = .strct [(12, 0, 1, false), (12, 1, 1, false), (145, 2, 1, false), (155, 3, 1, false), (5, 4, 1, false), (5, 5, 1, false), (156, 6, 1, false), (157, 7, 1, false), (158, 8, 1, false), (159, 9, 1, false), (160, 10, 1, false)] := by kernel_rfl
@[go_sem] theorem zr161 : zro Try.prog 161 = some [.pv (.int .u64 0), .pv (.int .u64 0), .pv (.int .u32 0), .pv (.int .u8 0), .pv (.int .u8 0), .pv (.int .u8 0), .pv (.int .u8 0), .pv .nilFn, .pv .nilPtr, .pv (.int .i32 0), .pv (.int .i32 0)] := by kernel_rfl
@[go_sem] theorem sz162 : szOf Try.prog 162 = 11 := by kernel_rfl
@[go_sem] theorem by162 : byOf Try.prog 162 = 48 := by kernel_rfl
@[go_sem] theorem ag162 : agOf Try.prog 162 = 2 := by kernel_rfl
@[go_sem] theorem tk162 : tk Try.prog 162 = .strct [(12, 0, 1, false), (12, 1, 1, false), (145, 2, 1, false), (155, 3, 1, false), (5, 4, 1, false), (5, 5, 1, false), (156, 6, 1, false), (157, 7, 1, false), (158, 8, 1, false), (159, 9, 1, false), (160, 10, 1, false)] := by kernel_rfl
@[go_sem] theorem zr162 : zro Try.prog 162 = some [.pv (.int .u64 0), .pv (.int .u64 0), .pv (.int .u32 0), .pv (.int .u8 0), .pv (.int .u8 0), .pv (.int .u8 0), .pv (.int .u8 0), .pv .nilFn, .pv .nilPtr, .pv (.int .i32 0), .pv (.int .i32 0)] := by kernel_rfl
@[go_sem] theorem sz163 : szOf Try.prog 163 = 1 := by kernel_rfl
@[go_sem] theorem by163 : byOf Try.prog 163 = 8 := by kernel_rfl
@[go_sem] theorem ag163 : agOf Try.prog 163 = 1 := by kernel_rfl
@[go_sem] theorem tk163 : tk Try.prog 163 = .other := by kernel_rfl
@[go_sem] theorem zr163 : zro Try.prog 163 = some [.pv .nilPtr] := by kernel_rfl
end Go.Ab.Try
