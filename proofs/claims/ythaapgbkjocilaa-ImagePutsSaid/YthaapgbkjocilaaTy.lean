/- What the plain steps ask of the translation's types. Printed by tys.py out of the translation. -/
import Derived.Test.YthaapgbkjocilaaProg
import Derived.Test.YthaapgbkjocilaaKB
namespace Go.Ab.Try
open Go.Proofs
set_option maxRecDepth 100000

@[go_sem] theorem sz2 : szOf Try.prog 2 = 1 := by kernel_rfl
@[go_sem] theorem by2 : byOf Try.prog 2 = 8 := by kernel_rfl
@[go_sem] theorem ag2 : agOf Try.prog 2 = 1 := by kernel_rfl
@[go_sem] theorem tk2 : tk Try.prog 2 = .int .i64 := by kernel_rfl
attribute [go_sem] Try.underlying2
@[go_sem] theorem zr2 : zro Try.prog 2 = some [.pv (.int .i64 0)] := by kernel_rfl
@[go_sem] theorem sz3 : szOf Try.prog 3 = 1 := by kernel_rfl
@[go_sem] theorem by3 : byOf Try.prog 3 = 8 := by kernel_rfl
@[go_sem] theorem ag3 : agOf Try.prog 3 = 1 := by kernel_rfl
@[go_sem] theorem tk3 : tk Try.prog 3 = .int .i64 := by kernel_rfl
attribute [go_sem] Try.underlying3
@[go_sem] theorem zr3 : zro Try.prog 3 = some [.pv (.int .i64 0)] := by kernel_rfl
@[go_sem] theorem sz4 : szOf Try.prog 4 = 1 := by kernel_rfl
@[go_sem] theorem by4 : byOf Try.prog 4 = 1 := by kernel_rfl
@[go_sem] theorem ag4 : agOf Try.prog 4 = 1 := by kernel_rfl
@[go_sem] theorem tk4 : tk Try.prog 4 = .bool := by kernel_rfl
attribute [go_sem] Try.underlying4
@[go_sem] theorem eqt4 : eqT Try.prog 4 = some [1] := by kernel_rfl
@[go_sem] theorem zr4 : zro Try.prog 4 = some [.pv (.bool false)] := by kernel_rfl
@[go_sem] theorem sz5 : szOf Try.prog 5 = 1 := by kernel_rfl
@[go_sem] theorem by5 : byOf Try.prog 5 = 1 := by kernel_rfl
@[go_sem] theorem ag5 : agOf Try.prog 5 = 1 := by kernel_rfl
@[go_sem] theorem tk5 : tk Try.prog 5 = .int .u8 := by kernel_rfl
attribute [go_sem] Try.underlying5
@[go_sem] theorem zr5 : zro Try.prog 5 = some [.pv (.int .u8 0)] := by kernel_rfl
@[go_sem] theorem sz6 : szOf Try.prog 6 = 1 := by kernel_rfl
@[go_sem] theorem by6 : byOf Try.prog 6 = 1 := by kernel_rfl
@[go_sem] theorem ag6 : agOf Try.prog 6 = 1 := by kernel_rfl
@[go_sem] theorem tk6 : tk Try.prog 6 = .int .u8 := by kernel_rfl
attribute [go_sem] Try.underlying6
@[go_sem] theorem zr6 : zro Try.prog 6 = some [.pv (.int .u8 0)] := by kernel_rfl
@[go_sem] theorem sz7 : szOf Try.prog 7 = 4 := by kernel_rfl
@[go_sem] theorem by7 : byOf Try.prog 7 = 24 := by kernel_rfl
@[go_sem] theorem ag7 : agOf Try.prog 7 = 2 := by kernel_rfl
@[go_sem] theorem tk7 : tk Try.prog 7 = .strct [(2, 0, 1, false), (3, 1, 1, false), (4, 2, 1, false), (6, 3, 1, false)] := by kernel_rfl
attribute [go_sem] Try.underlying7
@[go_sem] theorem zr7 : zro Try.prog 7 = some [.pv (.int .i64 0), .pv (.int .i64 0), .pv (.bool false), .pv (.int .u8 0)] := by kernel_rfl
@[go_sem] theorem sz8 : szOf Try.prog 8 = 4 := by kernel_rfl
@[go_sem] theorem by8 : byOf Try.prog 8 = 24 := by kernel_rfl
@[go_sem] theorem ag8 : agOf Try.prog 8 = 2 := by kernel_rfl
@[go_sem] theorem tk8 : tk Try.prog 8 = .strct [(2, 0, 1, false), (3, 1, 1, false), (4, 2, 1, false), (6, 3, 1, false)] := by kernel_rfl
attribute [go_sem] Try.underlying8
@[go_sem] theorem zr8 : zro Try.prog 8 = some [.pv (.int .i64 0), .pv (.int .i64 0), .pv (.bool false), .pv (.int .u8 0)] := by kernel_rfl
@[go_sem] theorem sz9 : szOf Try.prog 9 = 1 := by kernel_rfl
@[go_sem] theorem by9 : byOf Try.prog 9 = 16 := by kernel_rfl
@[go_sem] theorem ag9 : agOf Try.prog 9 = 1 := by kernel_rfl
@[go_sem] theorem tk9 : tk Try.prog 9 = .str := by kernel_rfl
attribute [go_sem] Try.underlying9
@[go_sem] theorem zr9 : zro Try.prog 9 = some [.pv (.str ⟨#[]⟩)] := by kernel_rfl
@[go_sem] theorem sz10 : szOf Try.prog 10 = 1 := by kernel_rfl
@[go_sem] theorem by10 : byOf Try.prog 10 = 16 := by kernel_rfl
@[go_sem] theorem ag10 : agOf Try.prog 10 = 1 := by kernel_rfl
@[go_sem] theorem tk10 : tk Try.prog 10 = .str := by kernel_rfl
attribute [go_sem] Try.underlying10
@[go_sem] theorem zr10 : zro Try.prog 10 = some [.pv (.str ⟨#[]⟩)] := by kernel_rfl
@[go_sem] theorem sz11 : szOf Try.prog 11 = 1 := by kernel_rfl
@[go_sem] theorem by11 : byOf Try.prog 11 = 16 := by kernel_rfl
@[go_sem] theorem ag11 : agOf Try.prog 11 = 1 := by kernel_rfl
@[go_sem] theorem tk11 : tk Try.prog 11 = .str := by kernel_rfl
attribute [go_sem] Try.underlying11
@[go_sem] theorem zr11 : zro Try.prog 11 = some [.pv (.str ⟨#[]⟩)] := by kernel_rfl
@[go_sem] theorem sz12 : szOf Try.prog 12 = 1 := by kernel_rfl
@[go_sem] theorem by12 : byOf Try.prog 12 = 8 := by kernel_rfl
@[go_sem] theorem ag12 : agOf Try.prog 12 = 1 := by kernel_rfl
@[go_sem] theorem tk12 : tk Try.prog 12 = .int .u64 := by kernel_rfl
attribute [go_sem] Try.underlying12
@[go_sem] theorem zr12 : zro Try.prog 12 = some [.pv (.int .u64 0)] := by kernel_rfl
@[go_sem] theorem sz13 : szOf Try.prog 13 = 2 := by kernel_rfl
@[go_sem] theorem by13 : byOf Try.prog 13 = 24 := by kernel_rfl
@[go_sem] theorem ag13 : agOf Try.prog 13 = 2 := by kernel_rfl
@[go_sem] theorem tk13 : tk Try.prog 13 = .strct [(9, 0, 1, false), (12, 1, 1, false)] := by kernel_rfl
attribute [go_sem] Try.underlying13
@[go_sem] theorem zr13 : zro Try.prog 13 = some [.pv (.str ⟨#[]⟩), .pv (.int .u64 0)] := by kernel_rfl
@[go_sem] theorem sz14 : szOf Try.prog 14 = 2 := by kernel_rfl
@[go_sem] theorem by14 : byOf Try.prog 14 = 24 := by kernel_rfl
@[go_sem] theorem ag14 : agOf Try.prog 14 = 2 := by kernel_rfl
@[go_sem] theorem tk14 : tk Try.prog 14 = .strct [(9, 0, 1, false), (12, 1, 1, false)] := by kernel_rfl
attribute [go_sem] Try.underlying14
@[go_sem] theorem zr14 : zro Try.prog 14 = some [.pv (.str ⟨#[]⟩), .pv (.int .u64 0)] := by kernel_rfl
@[go_sem] theorem sz15 : szOf Try.prog 15 = 1 := by kernel_rfl
@[go_sem] theorem by15 : byOf Try.prog 15 = 8 := by kernel_rfl
@[go_sem] theorem ag15 : agOf Try.prog 15 = 1 := by kernel_rfl
@[go_sem] theorem tk15 : tk Try.prog 15 = .other := by kernel_rfl
attribute [go_sem] Try.underlying15
@[go_sem] theorem zr15 : zro Try.prog 15 = some [.pv .nilPtr] := by kernel_rfl
@[go_sem] theorem sz16 : szOf Try.prog 16 = 1 := by kernel_rfl
@[go_sem] theorem by16 : byOf Try.prog 16 = 8 := by kernel_rfl
@[go_sem] theorem ag16 : agOf Try.prog 16 = 1 := by kernel_rfl
@[go_sem] theorem tk16 : tk Try.prog 16 = .other := by kernel_rfl
attribute [go_sem] Try.underlying16
@[go_sem] theorem zr16 : zro Try.prog 16 = some [.pv .nilPtr] := by kernel_rfl
@[go_sem] theorem sz17 : szOf Try.prog 17 = 1 := by kernel_rfl
@[go_sem] theorem by17 : byOf Try.prog 17 = 8 := by kernel_rfl
@[go_sem] theorem ag17 : agOf Try.prog 17 = 1 := by kernel_rfl
@[go_sem] theorem tk17 : tk Try.prog 17 = .other := by kernel_rfl
attribute [go_sem] Try.underlying17
@[go_sem] theorem zr17 : zro Try.prog 17 = some [.pv .nilPtr] := by kernel_rfl
@[go_sem] theorem sz18 : szOf Try.prog 18 = 1 := by kernel_rfl
@[go_sem] theorem by18 : byOf Try.prog 18 = 8 := by kernel_rfl
@[go_sem] theorem ag18 : agOf Try.prog 18 = 2 := by kernel_rfl
@[go_sem] theorem tk18 : tk Try.prog 18 = .strct [(17, 0, 1, false)] := by kernel_rfl
attribute [go_sem] Try.underlying18
@[go_sem] theorem zr18 : zro Try.prog 18 = some [.pv .nilPtr] := by kernel_rfl
@[go_sem] theorem sz19 : szOf Try.prog 19 = 1 := by kernel_rfl
@[go_sem] theorem by19 : byOf Try.prog 19 = 8 := by kernel_rfl
@[go_sem] theorem ag19 : agOf Try.prog 19 = 2 := by kernel_rfl
@[go_sem] theorem tk19 : tk Try.prog 19 = .strct [(17, 0, 1, false)] := by kernel_rfl
attribute [go_sem] Try.underlying19
@[go_sem] theorem zr19 : zro Try.prog 19 = some [.pv .nilPtr] := by kernel_rfl
@[go_sem] theorem sz20 : szOf Try.prog 20 = 1 := by kernel_rfl
@[go_sem] theorem by20 : byOf Try.prog 20 = 16 := by kernel_rfl
@[go_sem] theorem ag20 : agOf Try.prog 20 = 1 := by kernel_rfl
@[go_sem] theorem tk20 : tk Try.prog 20 = .other := by kernel_rfl
attribute [go_sem] Try.underlying20
@[go_sem] theorem zr20 : zro Try.prog 20 = some [.pv .nilIfc] := by kernel_rfl
@[go_sem] theorem sz21 : szOf Try.prog 21 = 1 := by kernel_rfl
@[go_sem] theorem by21 : byOf Try.prog 21 = 4 := by kernel_rfl
@[go_sem] theorem ag21 : agOf Try.prog 21 = 1 := by kernel_rfl
@[go_sem] theorem tk21 : tk Try.prog 21 = .int .i32 := by kernel_rfl
attribute [go_sem] Try.underlying21
@[go_sem] theorem zr21 : zro Try.prog 21 = some [.pv (.int .i32 0)] := by kernel_rfl
@[go_sem] theorem sz22 : szOf Try.prog 22 = 1 := by kernel_rfl
@[go_sem] theorem by22 : byOf Try.prog 22 = 24 := by kernel_rfl
@[go_sem] theorem ag22 : agOf Try.prog 22 = 1 := by kernel_rfl
@[go_sem] theorem tk22 : tk Try.prog 22 = .slice 42 1 8 := by kernel_rfl
attribute [go_sem] Try.underlying22
@[go_sem] theorem zr22 : zro Try.prog 22 = some [.pv (.lst true 0 [])] := by kernel_rfl
@[go_sem] theorem sz23 : szOf Try.prog 23 = 1 := by kernel_rfl
@[go_sem] theorem by23 : byOf Try.prog 23 = 24 := by kernel_rfl
@[go_sem] theorem ag23 : agOf Try.prog 23 = 1 := by kernel_rfl
@[go_sem] theorem tk23 : tk Try.prog 23 = .slice 44 5 40 := by kernel_rfl
attribute [go_sem] Try.underlying23
@[go_sem] theorem zr23 : zro Try.prog 23 = some [.pv (.lst true 0 [])] := by kernel_rfl
@[go_sem] theorem sz24 : szOf Try.prog 24 = 3 := by kernel_rfl
@[go_sem] theorem by24 : byOf Try.prog 24 = 72 := by kernel_rfl
@[go_sem] theorem ag24 : agOf Try.prog 24 = 2 := by kernel_rfl
@[go_sem] theorem tk24 : tk Try.prog 24 = .arr 3 23 1 false := by kernel_rfl
attribute [go_sem] Try.underlying24
@[go_sem] theorem zr24 : zro Try.prog 24 = some [.pv (.lst true 0 []), .pv (.lst true 0 []), .pv (.lst true 0 [])] := by kernel_rfl
@[go_sem] theorem sz25 : szOf Try.prog 25 = 6 := by kernel_rfl
@[go_sem] theorem by25 : byOf Try.prog 25 = 112 := by kernel_rfl
@[go_sem] theorem ag25 : agOf Try.prog 25 = 2 := by kernel_rfl
@[go_sem] theorem tk25 : tk Try.prog 25 = .strct [(3, 0, 1, false), (3, 1, 1, false), (22, 2, 1, false), (24, 3, 3, true)] := by kernel_rfl
attribute [go_sem] Try.underlying25
@[go_sem] theorem zr25 : zro Try.prog 25 = some [.pv (.int .i64 0), .pv (.int .i64 0), .pv (.lst true 0 []), .pv (.lst true 0 []), .pv (.lst true 0 []), .pv (.lst true 0 [])] := by kernel_rfl
@[go_sem] theorem sz26 : szOf Try.prog 26 = 6 := by kernel_rfl
@[go_sem] theorem by26 : byOf Try.prog 26 = 112 := by kernel_rfl
@[go_sem] theorem ag26 : agOf Try.prog 26 = 2 := by kernel_rfl
@[go_sem] theorem tk26 : tk Try.prog 26 = .strct [(3, 0, 1, false), (3, 1, 1, false), (22, 2, 1, false), (24, 3, 3, true)] := by kernel_rfl
attribute [go_sem] Try.underlying26
@[go_sem] theorem zr26 : zro Try.prog 26 = some [.pv (.int .i64 0), .pv (.int .i64 0), .pv (.lst true 0 []), .pv (.lst true 0 []), .pv (.lst true 0 []), .pv (.lst true 0 [])] := by kernel_rfl
@[go_sem] theorem sz29 : szOf Try.prog 29 = 1 := by kernel_rfl
@[go_sem] theorem by29 : byOf Try.prog 29 = 8 := by kernel_rfl
@[go_sem] theorem ag29 : agOf Try.prog 29 = 1 := by kernel_rfl
@[go_sem] theorem tk29 : tk Try.prog 29 = .int .i64 := by kernel_rfl
attribute [go_sem] Try.underlying29
@[go_sem] theorem zr29 : zro Try.prog 29 = some [.pv (.int .i64 0)] := by kernel_rfl
@[go_sem] theorem sz40 : szOf Try.prog 40 = 1 := by kernel_rfl
@[go_sem] theorem by40 : byOf Try.prog 40 = 24 := by kernel_rfl
@[go_sem] theorem ag40 : agOf Try.prog 40 = 1 := by kernel_rfl
@[go_sem] theorem tk40 : tk Try.prog 40 = .slice 5 1 1 := by kernel_rfl
attribute [go_sem] Try.underlying40
@[go_sem] theorem zr40 : zro Try.prog 40 = some [.pv (.lst true 0 [])] := by kernel_rfl
@[go_sem] theorem sz42 : szOf Try.prog 42 = 1 := by kernel_rfl
@[go_sem] theorem by42 : byOf Try.prog 42 = 8 := by kernel_rfl
@[go_sem] theorem ag42 : agOf Try.prog 42 = 1 := by kernel_rfl
@[go_sem] theorem tk42 : tk Try.prog 42 = .int .u64 := by kernel_rfl
attribute [go_sem] Try.underlying42
@[go_sem] theorem zr42 : zro Try.prog 42 = some [.pv (.int .u64 0)] := by kernel_rfl
@[go_sem] theorem sz43 : szOf Try.prog 43 = 5 := by kernel_rfl
@[go_sem] theorem by43 : byOf Try.prog 43 = 40 := by kernel_rfl
@[go_sem] theorem ag43 : agOf Try.prog 43 = 2 := by kernel_rfl
@[go_sem] theorem tk43 : tk Try.prog 43 = .strct [(3, 0, 1, false), (3, 1, 1, false), (3, 2, 1, false), (3, 3, 1, false), (42, 4, 1, false)] := by kernel_rfl
attribute [go_sem] Try.underlying43
@[go_sem] theorem zr43 : zro Try.prog 43 = some [.pv (.int .i64 0), .pv (.int .i64 0), .pv (.int .i64 0), .pv (.int .i64 0), .pv (.int .u64 0)] := by kernel_rfl
@[go_sem] theorem sz44 : szOf Try.prog 44 = 5 := by kernel_rfl
@[go_sem] theorem by44 : byOf Try.prog 44 = 40 := by kernel_rfl
@[go_sem] theorem ag44 : agOf Try.prog 44 = 2 := by kernel_rfl
@[go_sem] theorem tk44 : tk Try.prog 44 = .strct [(3, 0, 1, false), (3, 1, 1, false), (3, 2, 1, false), (3, 3, 1, false), (42, 4, 1, false)] := by kernel_rfl
attribute [go_sem] Try.underlying44
@[go_sem] theorem eqt44 : eqT Try.prog 44 = some [0, 0, 0, 0, 0] := by kernel_rfl
@[go_sem] theorem zr44 : zro Try.prog 44 = some [.pv (.int .i64 0), .pv (.int .i64 0), .pv (.int .i64 0), .pv (.int .i64 0), .pv (.int .u64 0)] := by kernel_rfl
@[go_sem] theorem sz52 : szOf Try.prog 52 = 1 := by kernel_rfl
@[go_sem] theorem by52 : byOf Try.prog 52 = 8 := by kernel_rfl
@[go_sem] theorem ag52 : agOf Try.prog 52 = 1 := by kernel_rfl
@[go_sem] theorem tk52 : tk Try.prog 52 = .other := by kernel_rfl
attribute [go_sem] Try.underlying52
@[go_sem] theorem zr52 : zro Try.prog 52 = some [.pv .nilPtr] := by kernel_rfl
@[go_sem] theorem sz53 : szOf Try.prog 53 = 2 := by kernel_rfl
@[go_sem] theorem by53 : byOf Try.prog 53 = 24 := by kernel_rfl
@[go_sem] theorem ag53 : agOf Try.prog 53 = 2 := by kernel_rfl
@[go_sem] theorem tk53 : tk Try.prog 53 = .strct [(9, 0, 1, false), (4, 1, 1, false)] := by kernel_rfl
attribute [go_sem] Try.underlying53
@[go_sem] theorem zr53 : zro Try.prog 53 = some [.pv (.str ⟨#[]⟩), .pv (.bool false)] := by kernel_rfl
@[go_sem] theorem sz54 : szOf Try.prog 54 = 2 := by kernel_rfl
@[go_sem] theorem by54 : byOf Try.prog 54 = 24 := by kernel_rfl
@[go_sem] theorem ag54 : agOf Try.prog 54 = 2 := by kernel_rfl
@[go_sem] theorem tk54 : tk Try.prog 54 = .strct [(9, 0, 1, false), (4, 1, 1, false)] := by kernel_rfl
attribute [go_sem] Try.underlying54
@[go_sem] theorem zr54 : zro Try.prog 54 = some [.pv (.str ⟨#[]⟩), .pv (.bool false)] := by kernel_rfl
@[go_sem] theorem sz58 : szOf Try.prog 58 = 1 := by kernel_rfl
@[go_sem] theorem by58 : byOf Try.prog 58 = 24 := by kernel_rfl
@[go_sem] theorem ag58 : agOf Try.prog 58 = 1 := by kernel_rfl
@[go_sem] theorem tk58 : tk Try.prog 58 = .slice 3 1 8 := by kernel_rfl
attribute [go_sem] Try.underlying58
@[go_sem] theorem zr58 : zro Try.prog 58 = some [.pv (.lst true 0 [])] := by kernel_rfl
@[go_sem] theorem sz59 : szOf Try.prog 59 = 1 := by kernel_rfl
@[go_sem] theorem by59 : byOf Try.prog 59 = 8 := by kernel_rfl
@[go_sem] theorem ag59 : agOf Try.prog 59 = 1 := by kernel_rfl
@[go_sem] theorem tk59 : tk Try.prog 59 = .int .u64 := by kernel_rfl
attribute [go_sem] Try.underlying59
@[go_sem] theorem zr59 : zro Try.prog 59 = some [.pv (.int .u64 0)] := by kernel_rfl
@[go_sem] theorem sz62 : szOf Try.prog 62 = 4 := by kernel_rfl
@[go_sem] theorem by62 : byOf Try.prog 62 = 40 := by kernel_rfl
@[go_sem] theorem ag62 : agOf Try.prog 62 = 2 := by kernel_rfl
@[go_sem] theorem tk62 : tk Try.prog 62 = .strct [(17, 0, 1, false), (17, 1, 1, false), (17, 2, 1, false), (9, 3, 1, false)] := by kernel_rfl
attribute [go_sem] Try.underlying62
@[go_sem] theorem zr62 : zro Try.prog 62 = some [.pv .nilPtr, .pv .nilPtr, .pv .nilPtr, .pv (.str ⟨#[]⟩)] := by kernel_rfl
@[go_sem] theorem sz63 : szOf Try.prog 63 = 4 := by kernel_rfl
@[go_sem] theorem by63 : byOf Try.prog 63 = 40 := by kernel_rfl
@[go_sem] theorem ag63 : agOf Try.prog 63 = 2 := by kernel_rfl
@[go_sem] theorem tk63 : tk Try.prog 63 = .strct [(17, 0, 1, false), (17, 1, 1, false), (17, 2, 1, false), (9, 3, 1, false)] := by kernel_rfl
attribute [go_sem] Try.underlying63
@[go_sem] theorem zr63 : zro Try.prog 63 = some [.pv .nilPtr, .pv .nilPtr, .pv .nilPtr, .pv (.str ⟨#[]⟩)] := by kernel_rfl
@[go_sem] theorem sz64 : szOf Try.prog 64 = 0 := by kernel_rfl
@[go_sem] theorem by64 : byOf Try.prog 64 = 0 := by kernel_rfl
@[go_sem] theorem ag64 : agOf Try.prog 64 = 2 := by kernel_rfl
@[go_sem] theorem tk64 : tk Try.prog 64 = .arr 0 16 1 false := by kernel_rfl
attribute [go_sem] Try.underlying64
@[go_sem] theorem zr64 : zro Try.prog 64 = some [] := by kernel_rfl
@[go_sem] theorem sz65 : szOf Try.prog 65 = 0 := by kernel_rfl
@[go_sem] theorem by65 : byOf Try.prog 65 = 0 := by kernel_rfl
@[go_sem] theorem ag65 : agOf Try.prog 65 = 2 := by kernel_rfl
@[go_sem] theorem tk65 : tk Try.prog 65 = .strct [(64, 0, 0, true)] := by kernel_rfl
attribute [go_sem] Try.underlying65
@[go_sem] theorem zr65 : zro Try.prog 65 = some [] := by kernel_rfl
@[go_sem] theorem sz66 : szOf Try.prog 66 = 0 := by kernel_rfl
@[go_sem] theorem by66 : byOf Try.prog 66 = 0 := by kernel_rfl
@[go_sem] theorem ag66 : agOf Try.prog 66 = 2 := by kernel_rfl
@[go_sem] theorem tk66 : tk Try.prog 66 = .strct [(64, 0, 0, true)] := by kernel_rfl
attribute [go_sem] Try.underlying66
@[go_sem] theorem zr66 : zro Try.prog 66 = some [] := by kernel_rfl
@[go_sem] theorem sz67 : szOf Try.prog 67 = 1 := by kernel_rfl
@[go_sem] theorem by67 : byOf Try.prog 67 = 4 := by kernel_rfl
@[go_sem] theorem ag67 : agOf Try.prog 67 = 1 := by kernel_rfl
@[go_sem] theorem tk67 : tk Try.prog 67 = .int .u32 := by kernel_rfl
attribute [go_sem] Try.underlying67
@[go_sem] theorem zr67 : zro Try.prog 67 = some [.pv (.int .u32 0)] := by kernel_rfl
@[go_sem] theorem sz68 : szOf Try.prog 68 = 1 := by kernel_rfl
@[go_sem] theorem by68 : byOf Try.prog 68 = 1 := by kernel_rfl
@[go_sem] theorem ag68 : agOf Try.prog 68 = 1 := by kernel_rfl
@[go_sem] theorem tk68 : tk Try.prog 68 = .int .u8 := by kernel_rfl
attribute [go_sem] Try.underlying68
@[go_sem] theorem zr68 : zro Try.prog 68 = some [.pv (.int .u8 0)] := by kernel_rfl
@[go_sem] theorem sz69 : szOf Try.prog 69 = 1 := by kernel_rfl
@[go_sem] theorem by69 : byOf Try.prog 69 = 1 := by kernel_rfl
@[go_sem] theorem ag69 : agOf Try.prog 69 = 1 := by kernel_rfl
@[go_sem] theorem tk69 : tk Try.prog 69 = .int .u8 := by kernel_rfl
attribute [go_sem] Try.underlying69
@[go_sem] theorem zr69 : zro Try.prog 69 = some [.pv (.int .u8 0)] := by kernel_rfl
@[go_sem] theorem sz71 : szOf Try.prog 71 = 1 := by kernel_rfl
@[go_sem] theorem by71 : byOf Try.prog 71 = 8 := by kernel_rfl
@[go_sem] theorem ag71 : agOf Try.prog 71 = 1 := by kernel_rfl
@[go_sem] theorem tk71 : tk Try.prog 71 = .other := by kernel_rfl
attribute [go_sem] Try.underlying71
@[go_sem] theorem zr71 : zro Try.prog 71 = some [.pv .nilPtr] := by kernel_rfl
@[go_sem] theorem sz72 : szOf Try.prog 72 = 1 := by kernel_rfl
@[go_sem] theorem by72 : byOf Try.prog 72 = 4 := by kernel_rfl
@[go_sem] theorem ag72 : agOf Try.prog 72 = 1 := by kernel_rfl
@[go_sem] theorem tk72 : tk Try.prog 72 = .int .i32 := by kernel_rfl
attribute [go_sem] Try.underlying72
@[go_sem] theorem zr72 : zro Try.prog 72 = some [.pv (.int .i32 0)] := by kernel_rfl
@[go_sem] theorem sz73 : szOf Try.prog 73 = 1 := by kernel_rfl
@[go_sem] theorem by73 : byOf Try.prog 73 = 4 := by kernel_rfl
@[go_sem] theorem ag73 : agOf Try.prog 73 = 1 := by kernel_rfl
@[go_sem] theorem tk73 : tk Try.prog 73 = .int .i32 := by kernel_rfl
attribute [go_sem] Try.underlying73
@[go_sem] theorem zr73 : zro Try.prog 73 = some [.pv (.int .i32 0)] := by kernel_rfl
@[go_sem] theorem sz74 : szOf Try.prog 74 = 11 := by kernel_rfl
@[go_sem] theorem by74 : byOf Try.prog 74 = 48 := by kernel_rfl
@[go_sem] theorem ag74 : agOf Try.prog 74 = 2 := by kernel_rfl
@[go_sem] theorem tk74 : tk Try.prog 74 = .strct [(12, 0, 1, false), (12, 1, 1, false), (67, 2, 1, false), (68, 3, 1, false), (5, 4, 1, false), (5, 5, 1, false), (69, 6, 1, false), (70, 7, 1, false), (71, 8, 1, false), (72, 9, 1, false), (73, 10, 1, false)] := by kernel_rfl
attribute [go_sem] Try.underlying74
@[go_sem] theorem zr74 : zro Try.prog 74 = some [.pv (.int .u64 0), .pv (.int .u64 0), .pv (.int .u32 0), .pv (.int .u8 0), .pv (.int .u8 0), .pv (.int .u8 0), .pv (.int .u8 0), .pv .nilFn, .pv .nilPtr, .pv (.int .i32 0), .pv (.int .i32 0)] := by kernel_rfl
@[go_sem] theorem sz75 : szOf Try.prog 75 = 11 := by kernel_rfl
@[go_sem] theorem by75 : byOf Try.prog 75 = 48 := by kernel_rfl
@[go_sem] theorem ag75 : agOf Try.prog 75 = 2 := by kernel_rfl
@[go_sem] theorem tk75 : tk Try.prog 75 = .strct [(12, 0, 1, false), (12, 1, 1, false), (67, 2, 1, false), (68, 3, 1, false), (5, 4, 1, false), (5, 5, 1, false), (69, 6, 1, false), (70, 7, 1, false), (71, 8, 1, false), (72, 9, 1, false), (73, 10, 1, false)] := by kernel_rfl
attribute [go_sem] Try.underlying75
@[go_sem] theorem zr75 : zro Try.prog 75 = some [.pv (.int .u64 0), .pv (.int .u64 0), .pv (.int .u32 0), .pv (.int .u8 0), .pv (.int .u8 0), .pv (.int .u8 0), .pv (.int .u8 0), .pv .nilFn, .pv .nilPtr, .pv (.int .i32 0), .pv (.int .i32 0)] := by kernel_rfl
@[go_sem] theorem sz76 : szOf Try.prog 76 = 1 := by kernel_rfl
@[go_sem] theorem by76 : byOf Try.prog 76 = 8 := by kernel_rfl
@[go_sem] theorem ag76 : agOf Try.prog 76 = 1 := by kernel_rfl
@[go_sem] theorem tk76 : tk Try.prog 76 = .other := by kernel_rfl
attribute [go_sem] Try.underlying76
@[go_sem] theorem zr76 : zro Try.prog 76 = some [.pv .nilPtr] := by kernel_rfl
end Go.Ab.Try
