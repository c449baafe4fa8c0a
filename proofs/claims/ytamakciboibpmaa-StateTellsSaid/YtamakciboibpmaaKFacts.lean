import Derived.Test.YtamakciboibpmaaProg
import Derived.Test.YtamakciboibpmaaKC
import Derived.KernelRfl
/- Contracts of the program's functions (Facts): what each call returns, for all arguments of its kind. -/
/- Facts on the program's types and functions, each by evaluation. -/
namespace Go.Proofs.Ytamakciboibpmaa.Fx
open Go.Awp
theorem mixed : Try.prog.follows .mixedOrders = true := by kernel_rfl
@[simp] theorem sz2 : tySize Try.prog 2 = some 1 := by kernel_rfl
@[simp] theorem ag2 : tyAgg Try.prog 2 = some false := by kernel_rfl
@[simp] theorem el2 : tyElem Try.prog 2 = none := by kernel_rfl
@[simp] theorem ar2 : tyArr Try.prog 2 = none := by kernel_rfl
@[simp] theorem st2 : tyStr Try.prog 2 = false := by kernel_rfl
@[simp] theorem in2 : tyInt Try.prog 2 = some .i64 := by kernel_rfl
@[simp] theorem un2 : (Try.prog.underlying 2).isSome = true := by kernel_rfl
@[simp] theorem ze2 : zeroA Try.prog 2 = some [.int .i64 0] := by kernel_rfl
@[simp] theorem ta2 : tyApp Try.prog 2 = some 1 := by kernel_rfl
@[simp] theorem zr2 : zeroRow Try.prog 2 = some (.int .i64 0) := by kernel_rfl
@[simp] theorem sz3 : tySize Try.prog 3 = some 1 := by kernel_rfl
@[simp] theorem ag3 : tyAgg Try.prog 3 = some false := by kernel_rfl
@[simp] theorem el3 : tyElem Try.prog 3 = none := by kernel_rfl
@[simp] theorem ar3 : tyArr Try.prog 3 = none := by kernel_rfl
@[simp] theorem st3 : tyStr Try.prog 3 = false := by kernel_rfl
@[simp] theorem in3 : tyInt Try.prog 3 = some .i64 := by kernel_rfl
@[simp] theorem un3 : (Try.prog.underlying 3).isSome = true := by kernel_rfl
@[simp] theorem ze3 : zeroA Try.prog 3 = some [.int .i64 0] := by kernel_rfl
@[simp] theorem ta3 : tyApp Try.prog 3 = some 1 := by kernel_rfl
@[simp] theorem zr3 : zeroRow Try.prog 3 = some (.int .i64 0) := by kernel_rfl
@[simp] theorem sz4 : tySize Try.prog 4 = some 1 := by kernel_rfl
@[simp] theorem ag4 : tyAgg Try.prog 4 = some false := by kernel_rfl
@[simp] theorem el4 : tyElem Try.prog 4 = none := by kernel_rfl
@[simp] theorem ar4 : tyArr Try.prog 4 = none := by kernel_rfl
@[simp] theorem st4 : tyStr Try.prog 4 = false := by kernel_rfl
@[simp] theorem in4 : tyInt Try.prog 4 = none := by kernel_rfl
@[simp] theorem un4 : (Try.prog.underlying 4).isSome = true := by kernel_rfl
@[simp] theorem ze4 : zeroA Try.prog 4 = some [.bool false] := by kernel_rfl
@[simp] theorem ta4 : tyApp Try.prog 4 = some 1 := by kernel_rfl
@[simp] theorem zr4 : zeroRow Try.prog 4 = some (.bool false) := by kernel_rfl
@[simp] theorem ub4 : Try.prog.underlying 4 = some .bool := by kernel_rfl
@[simp] theorem sz5 : tySize Try.prog 5 = some 1 := by kernel_rfl
@[simp] theorem ag5 : tyAgg Try.prog 5 = some false := by kernel_rfl
@[simp] theorem el5 : tyElem Try.prog 5 = none := by kernel_rfl
@[simp] theorem ar5 : tyArr Try.prog 5 = none := by kernel_rfl
@[simp] theorem st5 : tyStr Try.prog 5 = false := by kernel_rfl
@[simp] theorem in5 : tyInt Try.prog 5 = some .u8 := by kernel_rfl
@[simp] theorem un5 : (Try.prog.underlying 5).isSome = true := by kernel_rfl
@[simp] theorem ze5 : zeroA Try.prog 5 = some [.int .u8 0] := by kernel_rfl
@[simp] theorem ta5 : tyApp Try.prog 5 = some 1 := by kernel_rfl
@[simp] theorem zr5 : zeroRow Try.prog 5 = some (.int .u8 0) := by kernel_rfl
@[simp] theorem sz6 : tySize Try.prog 6 = some 1 := by kernel_rfl
@[simp] theorem ag6 : tyAgg Try.prog 6 = some false := by kernel_rfl
@[simp] theorem el6 : tyElem Try.prog 6 = none := by kernel_rfl
@[simp] theorem ar6 : tyArr Try.prog 6 = none := by kernel_rfl
@[simp] theorem st6 : tyStr Try.prog 6 = false := by kernel_rfl
@[simp] theorem in6 : tyInt Try.prog 6 = some .u8 := by kernel_rfl
@[simp] theorem un6 : (Try.prog.underlying 6).isSome = true := by kernel_rfl
@[simp] theorem ze6 : zeroA Try.prog 6 = some [.int .u8 0] := by kernel_rfl
@[simp] theorem ta6 : tyApp Try.prog 6 = some 1 := by kernel_rfl
@[simp] theorem zr6 : zeroRow Try.prog 6 = some (.int .u8 0) := by kernel_rfl
@[simp] theorem sz7 : tySize Try.prog 7 = some 4 := by kernel_rfl
@[simp] theorem ag7 : tyAgg Try.prog 7 = some true := by kernel_rfl
@[simp] theorem el7 : tyElem Try.prog 7 = none := by kernel_rfl
@[simp] theorem ar7 : tyArr Try.prog 7 = none := by kernel_rfl
@[simp] theorem st7 : tyStr Try.prog 7 = false := by kernel_rfl
@[simp] theorem in7 : tyInt Try.prog 7 = none := by kernel_rfl
@[simp] theorem un7 : (Try.prog.underlying 7).isSome = true := by kernel_rfl
@[simp] theorem fl7_0 : tyFld Try.prog 7 0 = some (0, 2) := by kernel_rfl
@[simp] theorem of7_0 : tyOff Try.prog 7 0 = some 0 := by kernel_rfl
@[simp] theorem fl7_1 : tyFld Try.prog 7 1 = some (1, 3) := by kernel_rfl
@[simp] theorem of7_1 : tyOff Try.prog 7 1 = some 1 := by kernel_rfl
@[simp] theorem fl7_2 : tyFld Try.prog 7 2 = some (2, 4) := by kernel_rfl
@[simp] theorem of7_2 : tyOff Try.prog 7 2 = some 2 := by kernel_rfl
@[simp] theorem fl7_3 : tyFld Try.prog 7 3 = some (3, 6) := by kernel_rfl
@[simp] theorem of7_3 : tyOff Try.prog 7 3 = some 3 := by kernel_rfl
@[simp] theorem pl7 : placeOf Try.prog 7 = some fun i => [(0, 1), (1, 1), (2, 1), (3, 1)][i]? := by
  have h : tyPlaces Try.prog 7 = some [(0, 1), (1, 1), (2, 1), (3, 1)] := by kernel_rfl
  simp only [placeOf, h]
@[simp] theorem ze7 : zeroA Try.prog 7 = some [.int .i64 0, .int .i64 0, .bool false, .int .u8 0] := by kernel_rfl
@[simp] theorem ta7 : tyApp Try.prog 7 = some 4 := by kernel_rfl
@[simp] theorem zr7 : zeroRow Try.prog 7 = some (.agg [.int .i64 0, .int .i64 0, .bool false, .int .u8 0]) := by kernel_rfl
@[simp] theorem eq7 : tyEq Try.prog 7 = some [.i .i64, .i .i64, .b, .i .u8] := by kernel_rfl
@[simp] theorem sz9 : tySize Try.prog 9 = some 1 := by kernel_rfl
@[simp] theorem ag9 : tyAgg Try.prog 9 = some false := by kernel_rfl
@[simp] theorem el9 : tyElem Try.prog 9 = none := by kernel_rfl
@[simp] theorem ar9 : tyArr Try.prog 9 = none := by kernel_rfl
@[simp] theorem st9 : tyStr Try.prog 9 = true := by kernel_rfl
@[simp] theorem in9 : tyInt Try.prog 9 = none := by kernel_rfl
@[simp] theorem un9 : (Try.prog.underlying 9).isSome = true := by kernel_rfl
@[simp] theorem ze9 : zeroA Try.prog 9 = some [.str ⟨#[]⟩] := by kernel_rfl
@[simp] theorem ta9 : tyApp Try.prog 9 = some 1 := by kernel_rfl
@[simp] theorem zr9 : zeroRow Try.prog 9 = some (.str ⟨#[]⟩) := by kernel_rfl
@[simp] theorem sz22 : tySize Try.prog 22 = some 1 := by kernel_rfl
@[simp] theorem ag22 : tyAgg Try.prog 22 = some false := by kernel_rfl
@[simp] theorem el22 : tyElem Try.prog 22 = some 31 := by kernel_rfl
@[simp] theorem ar22 : tyArr Try.prog 22 = none := by kernel_rfl
@[simp] theorem st22 : tyStr Try.prog 22 = false := by kernel_rfl
@[simp] theorem in22 : tyInt Try.prog 22 = none := by kernel_rfl
@[simp] theorem un22 : (Try.prog.underlying 22).isSome = true := by kernel_rfl
@[simp] theorem ze22 : zeroA Try.prog 22 = some [.nils] := by kernel_rfl
@[simp] theorem ta22 : tyApp Try.prog 22 = some 1 := by kernel_rfl
@[simp] theorem zr22 : zeroRow Try.prog 22 = some (.nils) := by kernel_rfl
@[simp] theorem sz29 : tySize Try.prog 29 = some 4 := by kernel_rfl
@[simp] theorem ag29 : tyAgg Try.prog 29 = some true := by kernel_rfl
@[simp] theorem el29 : tyElem Try.prog 29 = none := by kernel_rfl
@[simp] theorem ar29 : tyArr Try.prog 29 = none := by kernel_rfl
@[simp] theorem st29 : tyStr Try.prog 29 = false := by kernel_rfl
@[simp] theorem in29 : tyInt Try.prog 29 = none := by kernel_rfl
@[simp] theorem un29 : (Try.prog.underlying 29).isSome = true := by kernel_rfl
@[simp] theorem fl29_0 : tyFld Try.prog 29 0 = some (0, 3) := by kernel_rfl
@[simp] theorem of29_0 : tyOff Try.prog 29 0 = some 0 := by kernel_rfl
@[simp] theorem fl29_1 : tyFld Try.prog 29 1 = some (1, 3) := by kernel_rfl
@[simp] theorem of29_1 : tyOff Try.prog 29 1 = some 1 := by kernel_rfl
@[simp] theorem fl29_2 : tyFld Try.prog 29 2 = some (2, 3) := by kernel_rfl
@[simp] theorem of29_2 : tyOff Try.prog 29 2 = some 2 := by kernel_rfl
@[simp] theorem fl29_3 : tyFld Try.prog 29 3 = some (3, 3) := by kernel_rfl
@[simp] theorem of29_3 : tyOff Try.prog 29 3 = some 3 := by kernel_rfl
@[simp] theorem pl29 : placeOf Try.prog 29 = some fun i => [(0, 1), (1, 1), (2, 1), (3, 1)][i]? := by
  have h : tyPlaces Try.prog 29 = some [(0, 1), (1, 1), (2, 1), (3, 1)] := by kernel_rfl
  simp only [placeOf, h]
@[simp] theorem ze29 : zeroA Try.prog 29 = some [.int .i64 0, .int .i64 0, .int .i64 0, .int .i64 0] := by kernel_rfl
@[simp] theorem ta29 : tyApp Try.prog 29 = some 4 := by kernel_rfl
@[simp] theorem zr29 : zeroRow Try.prog 29 = some (.agg [.int .i64 0, .int .i64 0, .int .i64 0, .int .i64 0]) := by kernel_rfl
@[simp] theorem eq29 : tyEq Try.prog 29 = some [.i .i64, .i .i64, .i .i64, .i .i64] := by kernel_rfl
@[simp] theorem sz31 : tySize Try.prog 31 = some 10 := by kernel_rfl
@[simp] theorem ag31 : tyAgg Try.prog 31 = some true := by kernel_rfl
@[simp] theorem el31 : tyElem Try.prog 31 = none := by kernel_rfl
@[simp] theorem ar31 : tyArr Try.prog 31 = none := by kernel_rfl
@[simp] theorem st31 : tyStr Try.prog 31 = false := by kernel_rfl
@[simp] theorem in31 : tyInt Try.prog 31 = none := by kernel_rfl
@[simp] theorem un31 : (Try.prog.underlying 31).isSome = true := by kernel_rfl
@[simp] theorem fl31_0 : tyFld Try.prog 31 0 = some (0, 3) := by kernel_rfl
@[simp] theorem of31_0 : tyOff Try.prog 31 0 = some 0 := by kernel_rfl
@[simp] theorem fl31_1 : tyFld Try.prog 31 1 = some (1, 3) := by kernel_rfl
@[simp] theorem of31_1 : tyOff Try.prog 31 1 = some 1 := by kernel_rfl
@[simp] theorem fl31_2 : tyFld Try.prog 31 2 = some (2, 3) := by kernel_rfl
@[simp] theorem of31_2 : tyOff Try.prog 31 2 = some 2 := by kernel_rfl
@[simp] theorem fl31_3 : tyFld Try.prog 31 3 = some (3, 3) := by kernel_rfl
@[simp] theorem of31_3 : tyOff Try.prog 31 3 = some 3 := by kernel_rfl
@[simp] theorem fl31_4 : tyFld Try.prog 31 4 = some (4, 29) := by kernel_rfl
@[simp] theorem of31_4 : tyOff Try.prog 31 4 = some 4 := by kernel_rfl
@[simp] theorem fl31_5 : tyFld Try.prog 31 5 = some (8, 3) := by kernel_rfl
@[simp] theorem of31_5 : tyOff Try.prog 31 5 = some 8 := by kernel_rfl
@[simp] theorem fl31_6 : tyFld Try.prog 31 6 = some (9, 3) := by kernel_rfl
@[simp] theorem of31_6 : tyOff Try.prog 31 6 = some 9 := by kernel_rfl
@[simp] theorem pl31 : placeOf Try.prog 31 = some fun i => [(0, 1), (1, 1), (2, 1), (3, 1), (4, 4), (8, 1), (9, 1)][i]? := by
  have h : tyPlaces Try.prog 31 = some [(0, 1), (1, 1), (2, 1), (3, 1), (4, 4), (8, 1), (9, 1)] := by kernel_rfl
  simp only [placeOf, h]
@[simp] theorem ze31 : zeroA Try.prog 31 = some [.int .i64 0, .int .i64 0, .int .i64 0, .int .i64 0, .int .i64 0, .int .i64 0, .int .i64 0, .int .i64 0, .int .i64 0, .int .i64 0] := by kernel_rfl
@[simp] theorem ta31 : tyApp Try.prog 31 = some 10 := by kernel_rfl
@[simp] theorem zr31 : zeroRow Try.prog 31 = some (.agg [.int .i64 0, .int .i64 0, .int .i64 0, .int .i64 0, .int .i64 0, .int .i64 0, .int .i64 0, .int .i64 0, .int .i64 0, .int .i64 0]) := by kernel_rfl
@[simp] theorem eq31 : tyEq Try.prog 31 = some [.i .i64, .i .i64, .i .i64, .i .i64, .i .i64, .i .i64, .i .i64, .i .i64, .i .i64, .i .i64] := by kernel_rfl
@[simp] theorem sz32 : tySize Try.prog 32 = some 1 := by kernel_rfl
@[simp] theorem ag32 : tyAgg Try.prog 32 = some false := by kernel_rfl
@[simp] theorem el32 : tyElem Try.prog 32 = none := by kernel_rfl
@[simp] theorem ar32 : tyArr Try.prog 32 = none := by kernel_rfl
@[simp] theorem st32 : tyStr Try.prog 32 = false := by kernel_rfl
@[simp] theorem in32 : tyInt Try.prog 32 = some .i64 := by kernel_rfl
@[simp] theorem un32 : (Try.prog.underlying 32).isSome = true := by kernel_rfl
@[simp] theorem ze32 : zeroA Try.prog 32 = some [.int .i64 0] := by kernel_rfl
@[simp] theorem ta32 : tyApp Try.prog 32 = some 1 := by kernel_rfl
@[simp] theorem zr32 : zeroRow Try.prog 32 = some (.int .i64 0) := by kernel_rfl
@[simp] theorem sz37 : tySize Try.prog 37 = some 3 := by kernel_rfl
@[simp] theorem ag37 : tyAgg Try.prog 37 = some true := by kernel_rfl
@[simp] theorem el37 : tyElem Try.prog 37 = none := by kernel_rfl
@[simp] theorem ar37 : tyArr Try.prog 37 = none := by kernel_rfl
@[simp] theorem st37 : tyStr Try.prog 37 = false := by kernel_rfl
@[simp] theorem in37 : tyInt Try.prog 37 = none := by kernel_rfl
@[simp] theorem un37 : (Try.prog.underlying 37).isSome = true := by kernel_rfl
@[simp] theorem fl37_0 : tyFld Try.prog 37 0 = some (0, 4) := by kernel_rfl
@[simp] theorem of37_0 : tyOff Try.prog 37 0 = some 0 := by kernel_rfl
@[simp] theorem fl37_1 : tyFld Try.prog 37 1 = some (1, 3) := by kernel_rfl
@[simp] theorem of37_1 : tyOff Try.prog 37 1 = some 1 := by kernel_rfl
@[simp] theorem fl37_2 : tyFld Try.prog 37 2 = some (2, 3) := by kernel_rfl
@[simp] theorem of37_2 : tyOff Try.prog 37 2 = some 2 := by kernel_rfl
@[simp] theorem pl37 : placeOf Try.prog 37 = some fun i => [(0, 1), (1, 1), (2, 1)][i]? := by
  have h : tyPlaces Try.prog 37 = some [(0, 1), (1, 1), (2, 1)] := by kernel_rfl
  simp only [placeOf, h]
@[simp] theorem ze37 : zeroA Try.prog 37 = some [.bool false, .int .i64 0, .int .i64 0] := by kernel_rfl
@[simp] theorem ta37 : tyApp Try.prog 37 = some 3 := by kernel_rfl
@[simp] theorem zr37 : zeroRow Try.prog 37 = some (.agg [.bool false, .int .i64 0, .int .i64 0]) := by kernel_rfl
@[simp] theorem eq37 : tyEq Try.prog 37 = some [.b, .i .i64, .i .i64] := by kernel_rfl
@[simp] theorem sz39 : tySize Try.prog 39 = some 5 := by kernel_rfl
@[simp] theorem ag39 : tyAgg Try.prog 39 = some true := by kernel_rfl
@[simp] theorem el39 : tyElem Try.prog 39 = none := by kernel_rfl
@[simp] theorem ar39 : tyArr Try.prog 39 = none := by kernel_rfl
@[simp] theorem st39 : tyStr Try.prog 39 = false := by kernel_rfl
@[simp] theorem in39 : tyInt Try.prog 39 = none := by kernel_rfl
@[simp] theorem un39 : (Try.prog.underlying 39).isSome = true := by kernel_rfl
@[simp] theorem fl39_0 : tyFld Try.prog 39 0 = some (0, 37) := by kernel_rfl
@[simp] theorem of39_0 : tyOff Try.prog 39 0 = some 0 := by kernel_rfl
@[simp] theorem fl39_1 : tyFld Try.prog 39 1 = some (3, 3) := by kernel_rfl
@[simp] theorem of39_1 : tyOff Try.prog 39 1 = some 3 := by kernel_rfl
@[simp] theorem fl39_2 : tyFld Try.prog 39 2 = some (4, 3) := by kernel_rfl
@[simp] theorem of39_2 : tyOff Try.prog 39 2 = some 4 := by kernel_rfl
@[simp] theorem pl39 : placeOf Try.prog 39 = some fun i => [(0, 3), (3, 1), (4, 1)][i]? := by
  have h : tyPlaces Try.prog 39 = some [(0, 3), (3, 1), (4, 1)] := by kernel_rfl
  simp only [placeOf, h]
@[simp] theorem ze39 : zeroA Try.prog 39 = some [.bool false, .int .i64 0, .int .i64 0, .int .i64 0, .int .i64 0] := by kernel_rfl
@[simp] theorem ta39 : tyApp Try.prog 39 = some 5 := by kernel_rfl
@[simp] theorem zr39 : zeroRow Try.prog 39 = some (.agg [.bool false, .int .i64 0, .int .i64 0, .int .i64 0, .int .i64 0]) := by kernel_rfl
@[simp] theorem eq39 : tyEq Try.prog 39 = some [.b, .i .i64, .i .i64, .i .i64, .i .i64] := by kernel_rfl
@[simp] theorem sz40 : tySize Try.prog 40 = some 1 := by kernel_rfl
@[simp] theorem ag40 : tyAgg Try.prog 40 = some false := by kernel_rfl
@[simp] theorem el40 : tyElem Try.prog 40 = some 96 := by kernel_rfl
@[simp] theorem ar40 : tyArr Try.prog 40 = none := by kernel_rfl
@[simp] theorem st40 : tyStr Try.prog 40 = false := by kernel_rfl
@[simp] theorem in40 : tyInt Try.prog 40 = none := by kernel_rfl
@[simp] theorem un40 : (Try.prog.underlying 40).isSome = true := by kernel_rfl
@[simp] theorem ze40 : zeroA Try.prog 40 = some [.nils] := by kernel_rfl
@[simp] theorem ta40 : tyApp Try.prog 40 = some 1 := by kernel_rfl
@[simp] theorem zr40 : zeroRow Try.prog 40 = some (.nils) := by kernel_rfl
@[simp] theorem sz41 : tySize Try.prog 41 = some 1 := by kernel_rfl
@[simp] theorem ag41 : tyAgg Try.prog 41 = some false := by kernel_rfl
@[simp] theorem el41 : tyElem Try.prog 41 = some 3 := by kernel_rfl
@[simp] theorem ar41 : tyArr Try.prog 41 = none := by kernel_rfl
@[simp] theorem st41 : tyStr Try.prog 41 = false := by kernel_rfl
@[simp] theorem in41 : tyInt Try.prog 41 = none := by kernel_rfl
@[simp] theorem un41 : (Try.prog.underlying 41).isSome = true := by kernel_rfl
@[simp] theorem ze41 : zeroA Try.prog 41 = some [.nils] := by kernel_rfl
@[simp] theorem ta41 : tyApp Try.prog 41 = some 1 := by kernel_rfl
@[simp] theorem zr41 : zeroRow Try.prog 41 = some (.nils) := by kernel_rfl
@[simp] theorem sz43 : tySize Try.prog 43 = some 2 := by kernel_rfl
@[simp] theorem ag43 : tyAgg Try.prog 43 = some true := by kernel_rfl
@[simp] theorem el43 : tyElem Try.prog 43 = none := by kernel_rfl
@[simp] theorem ar43 : tyArr Try.prog 43 = none := by kernel_rfl
@[simp] theorem st43 : tyStr Try.prog 43 = false := by kernel_rfl
@[simp] theorem in43 : tyInt Try.prog 43 = none := by kernel_rfl
@[simp] theorem un43 : (Try.prog.underlying 43).isSome = true := by kernel_rfl
@[simp] theorem fl43_0 : tyFld Try.prog 43 0 = some (0, 3) := by kernel_rfl
@[simp] theorem of43_0 : tyOff Try.prog 43 0 = some 0 := by kernel_rfl
@[simp] theorem fl43_1 : tyFld Try.prog 43 1 = some (1, 41) := by kernel_rfl
@[simp] theorem of43_1 : tyOff Try.prog 43 1 = some 1 := by kernel_rfl
@[simp] theorem pl43 : placeOf Try.prog 43 = some fun i => [(0, 1), (1, 1)][i]? := by
  have h : tyPlaces Try.prog 43 = some [(0, 1), (1, 1)] := by kernel_rfl
  simp only [placeOf, h]
@[simp] theorem ze43 : zeroA Try.prog 43 = some [.int .i64 0, .nils] := by kernel_rfl
@[simp] theorem ta43 : tyApp Try.prog 43 = some 2 := by kernel_rfl
@[simp] theorem zr43 : zeroRow Try.prog 43 = some (.agg [.int .i64 0, .nils]) := by kernel_rfl
@[simp] theorem sz45 : tySize Try.prog 45 = some 15 := by kernel_rfl
@[simp] theorem ag45 : tyAgg Try.prog 45 = some true := by kernel_rfl
@[simp] theorem el45 : tyElem Try.prog 45 = none := by kernel_rfl
@[simp] theorem ar45 : tyArr Try.prog 45 = none := by kernel_rfl
@[simp] theorem st45 : tyStr Try.prog 45 = false := by kernel_rfl
@[simp] theorem in45 : tyInt Try.prog 45 = none := by kernel_rfl
@[simp] theorem un45 : (Try.prog.underlying 45).isSome = true := by kernel_rfl
@[simp] theorem fl45_0 : tyFld Try.prog 45 0 = some (0, 3) := by kernel_rfl
@[simp] theorem of45_0 : tyOff Try.prog 45 0 = some 0 := by kernel_rfl
@[simp] theorem fl45_1 : tyFld Try.prog 45 1 = some (1, 3) := by kernel_rfl
@[simp] theorem of45_1 : tyOff Try.prog 45 1 = some 1 := by kernel_rfl
@[simp] theorem fl45_2 : tyFld Try.prog 45 2 = some (2, 3) := by kernel_rfl
@[simp] theorem of45_2 : tyOff Try.prog 45 2 = some 2 := by kernel_rfl
@[simp] theorem fl45_3 : tyFld Try.prog 45 3 = some (3, 37) := by kernel_rfl
@[simp] theorem of45_3 : tyOff Try.prog 45 3 = some 3 := by kernel_rfl
@[simp] theorem fl45_4 : tyFld Try.prog 45 4 = some (6, 39) := by kernel_rfl
@[simp] theorem of45_4 : tyOff Try.prog 45 4 = some 6 := by kernel_rfl
@[simp] theorem fl45_5 : tyFld Try.prog 45 5 = some (11, 40) := by kernel_rfl
@[simp] theorem of45_5 : tyOff Try.prog 45 5 = some 11 := by kernel_rfl
@[simp] theorem fl45_6 : tyFld Try.prog 45 6 = some (12, 41) := by kernel_rfl
@[simp] theorem of45_6 : tyOff Try.prog 45 6 = some 12 := by kernel_rfl
@[simp] theorem fl45_7 : tyFld Try.prog 45 7 = some (13, 43) := by kernel_rfl
@[simp] theorem of45_7 : tyOff Try.prog 45 7 = some 13 := by kernel_rfl
@[simp] theorem pl45 : placeOf Try.prog 45 = some fun i => [(0, 1), (1, 1), (2, 1), (3, 3), (6, 5), (11, 1), (12, 1), (13, 2)][i]? := by
  have h : tyPlaces Try.prog 45 = some [(0, 1), (1, 1), (2, 1), (3, 3), (6, 5), (11, 1), (12, 1), (13, 2)] := by kernel_rfl
  simp only [placeOf, h]
@[simp] theorem ze45 : zeroA Try.prog 45 = some [.int .i64 0, .int .i64 0, .int .i64 0, .bool false, .int .i64 0, .int .i64 0, .bool false, .int .i64 0, .int .i64 0, .int .i64 0, .int .i64 0, .nils, .nils, .int .i64 0, .nils] := by kernel_rfl
@[simp] theorem ta45 : tyApp Try.prog 45 = some 15 := by kernel_rfl
@[simp] theorem zr45 : zeroRow Try.prog 45 = some (.agg [.int .i64 0, .int .i64 0, .int .i64 0, .bool false, .int .i64 0, .int .i64 0, .bool false, .int .i64 0, .int .i64 0, .int .i64 0, .int .i64 0, .nils, .nils, .int .i64 0, .nils]) := by kernel_rfl
@[simp] theorem sz46 : tySize Try.prog 46 = some 3 := by kernel_rfl
@[simp] theorem ag46 : tyAgg Try.prog 46 = some true := by kernel_rfl
@[simp] theorem el46 : tyElem Try.prog 46 = none := by kernel_rfl
@[simp] theorem ar46 : tyArr Try.prog 46 = some (3, 3) := by kernel_rfl
@[simp] theorem st46 : tyStr Try.prog 46 = false := by kernel_rfl
@[simp] theorem in46 : tyInt Try.prog 46 = none := by kernel_rfl
@[simp] theorem un46 : (Try.prog.underlying 46).isSome = true := by kernel_rfl
@[simp] theorem pl46 : placeOf Try.prog 46 = some fun i => some (i * 1, 1) := by
  have h : tyPlaces Try.prog 46 = none := by kernel_rfl
  have h1 : tyArr Try.prog 46 = some (3, 3) := by kernel_rfl
  have h2 : tySize Try.prog 3 = some 1 := by kernel_rfl
  simp only [placeOf, h, h1, h2, Option.map]
@[simp] theorem ze46 : zeroA Try.prog 46 = some [.int .i64 0, .int .i64 0, .int .i64 0] := by kernel_rfl
@[simp] theorem ta46 : tyApp Try.prog 46 = some 3 := by kernel_rfl
@[simp] theorem zr46 : zeroRow Try.prog 46 = some (.agg [.int .i64 0, .int .i64 0, .int .i64 0]) := by kernel_rfl
@[simp] theorem eq46 : tyEq Try.prog 46 = some [.i .i64, .i .i64, .i .i64] := by kernel_rfl
@[simp] theorem sz48 : tySize Try.prog 48 = some 1 := by kernel_rfl
@[simp] theorem ag48 : tyAgg Try.prog 48 = some false := by kernel_rfl
@[simp] theorem el48 : tyElem Try.prog 48 = some 76 := by kernel_rfl
@[simp] theorem ar48 : tyArr Try.prog 48 = none := by kernel_rfl
@[simp] theorem st48 : tyStr Try.prog 48 = false := by kernel_rfl
@[simp] theorem in48 : tyInt Try.prog 48 = none := by kernel_rfl
@[simp] theorem un48 : (Try.prog.underlying 48).isSome = true := by kernel_rfl
@[simp] theorem ze48 : zeroA Try.prog 48 = some [.nils] := by kernel_rfl
@[simp] theorem ta48 : tyApp Try.prog 48 = some 1 := by kernel_rfl
@[simp] theorem zr48 : zeroRow Try.prog 48 = some (.nils) := by kernel_rfl
@[simp] theorem sz49 : tySize Try.prog 49 = some 1 := by kernel_rfl
@[simp] theorem ag49 : tyAgg Try.prog 49 = some false := by kernel_rfl
@[simp] theorem el49 : tyElem Try.prog 49 = some 88 := by kernel_rfl
@[simp] theorem ar49 : tyArr Try.prog 49 = none := by kernel_rfl
@[simp] theorem st49 : tyStr Try.prog 49 = false := by kernel_rfl
@[simp] theorem in49 : tyInt Try.prog 49 = none := by kernel_rfl
@[simp] theorem un49 : (Try.prog.underlying 49).isSome = true := by kernel_rfl
@[simp] theorem ze49 : zeroA Try.prog 49 = some [.nils] := by kernel_rfl
@[simp] theorem ta49 : tyApp Try.prog 49 = some 1 := by kernel_rfl
@[simp] theorem zr49 : zeroRow Try.prog 49 = some (.nils) := by kernel_rfl
@[simp] theorem sz50 : tySize Try.prog 50 = some 1 := by kernel_rfl
@[simp] theorem ag50 : tyAgg Try.prog 50 = some false := by kernel_rfl
@[simp] theorem el50 : tyElem Try.prog 50 = some 90 := by kernel_rfl
@[simp] theorem ar50 : tyArr Try.prog 50 = none := by kernel_rfl
@[simp] theorem st50 : tyStr Try.prog 50 = false := by kernel_rfl
@[simp] theorem in50 : tyInt Try.prog 50 = none := by kernel_rfl
@[simp] theorem un50 : (Try.prog.underlying 50).isSome = true := by kernel_rfl
@[simp] theorem ze50 : zeroA Try.prog 50 = some [.nils] := by kernel_rfl
@[simp] theorem ta50 : tyApp Try.prog 50 = some 1 := by kernel_rfl
@[simp] theorem zr50 : zeroRow Try.prog 50 = some (.nils) := by kernel_rfl
@[simp] theorem sz52 : tySize Try.prog 52 = some 6 := by kernel_rfl
@[simp] theorem ag52 : tyAgg Try.prog 52 = some true := by kernel_rfl
@[simp] theorem el52 : tyElem Try.prog 52 = none := by kernel_rfl
@[simp] theorem ar52 : tyArr Try.prog 52 = none := by kernel_rfl
@[simp] theorem st52 : tyStr Try.prog 52 = false := by kernel_rfl
@[simp] theorem in52 : tyInt Try.prog 52 = none := by kernel_rfl
@[simp] theorem un52 : (Try.prog.underlying 52).isSome = true := by kernel_rfl
@[simp] theorem fl52_0 : tyFld Try.prog 52 0 = some (0, 4) := by kernel_rfl
@[simp] theorem of52_0 : tyOff Try.prog 52 0 = some 0 := by kernel_rfl
@[simp] theorem fl52_1 : tyFld Try.prog 52 1 = some (1, 9) := by kernel_rfl
@[simp] theorem of52_1 : tyOff Try.prog 52 1 = some 1 := by kernel_rfl
@[simp] theorem fl52_2 : tyFld Try.prog 52 2 = some (2, 4) := by kernel_rfl
@[simp] theorem of52_2 : tyOff Try.prog 52 2 = some 2 := by kernel_rfl
@[simp] theorem fl52_3 : tyFld Try.prog 52 3 = some (3, 3) := by kernel_rfl
@[simp] theorem of52_3 : tyOff Try.prog 52 3 = some 3 := by kernel_rfl
@[simp] theorem fl52_4 : tyFld Try.prog 52 4 = some (4, 3) := by kernel_rfl
@[simp] theorem of52_4 : tyOff Try.prog 52 4 = some 4 := by kernel_rfl
@[simp] theorem fl52_5 : tyFld Try.prog 52 5 = some (5, 4) := by kernel_rfl
@[simp] theorem of52_5 : tyOff Try.prog 52 5 = some 5 := by kernel_rfl
@[simp] theorem pl52 : placeOf Try.prog 52 = some fun i => [(0, 1), (1, 1), (2, 1), (3, 1), (4, 1), (5, 1)][i]? := by
  have h : tyPlaces Try.prog 52 = some [(0, 1), (1, 1), (2, 1), (3, 1), (4, 1), (5, 1)] := by kernel_rfl
  simp only [placeOf, h]
@[simp] theorem ze52 : zeroA Try.prog 52 = some [.bool false, .str ⟨#[]⟩, .bool false, .int .i64 0, .int .i64 0, .bool false] := by kernel_rfl
@[simp] theorem ta52 : tyApp Try.prog 52 = some 6 := by kernel_rfl
@[simp] theorem zr52 : zeroRow Try.prog 52 = some (.agg [.bool false, .str ⟨#[]⟩, .bool false, .int .i64 0, .int .i64 0, .bool false]) := by kernel_rfl
@[simp] theorem eq52 : tyEq Try.prog 52 = some [.b, .s, .b, .i .i64, .i .i64, .b] := by kernel_rfl
@[simp] theorem sz54 : tySize Try.prog 54 = some 8 := by kernel_rfl
@[simp] theorem ag54 : tyAgg Try.prog 54 = some true := by kernel_rfl
@[simp] theorem el54 : tyElem Try.prog 54 = none := by kernel_rfl
@[simp] theorem ar54 : tyArr Try.prog 54 = none := by kernel_rfl
@[simp] theorem st54 : tyStr Try.prog 54 = false := by kernel_rfl
@[simp] theorem in54 : tyInt Try.prog 54 = none := by kernel_rfl
@[simp] theorem un54 : (Try.prog.underlying 54).isSome = true := by kernel_rfl
@[simp] theorem fl54_0 : tyFld Try.prog 54 0 = some (0, 4) := by kernel_rfl
@[simp] theorem of54_0 : tyOff Try.prog 54 0 = some 0 := by kernel_rfl
@[simp] theorem fl54_1 : tyFld Try.prog 54 1 = some (1, 9) := by kernel_rfl
@[simp] theorem of54_1 : tyOff Try.prog 54 1 = some 1 := by kernel_rfl
@[simp] theorem fl54_2 : tyFld Try.prog 54 2 = some (2, 4) := by kernel_rfl
@[simp] theorem of54_2 : tyOff Try.prog 54 2 = some 2 := by kernel_rfl
@[simp] theorem fl54_3 : tyFld Try.prog 54 3 = some (3, 3) := by kernel_rfl
@[simp] theorem of54_3 : tyOff Try.prog 54 3 = some 3 := by kernel_rfl
@[simp] theorem fl54_4 : tyFld Try.prog 54 4 = some (4, 3) := by kernel_rfl
@[simp] theorem of54_4 : tyOff Try.prog 54 4 = some 4 := by kernel_rfl
@[simp] theorem fl54_5 : tyFld Try.prog 54 5 = some (5, 3) := by kernel_rfl
@[simp] theorem of54_5 : tyOff Try.prog 54 5 = some 5 := by kernel_rfl
@[simp] theorem fl54_6 : tyFld Try.prog 54 6 = some (6, 3) := by kernel_rfl
@[simp] theorem of54_6 : tyOff Try.prog 54 6 = some 6 := by kernel_rfl
@[simp] theorem fl54_7 : tyFld Try.prog 54 7 = some (7, 3) := by kernel_rfl
@[simp] theorem of54_7 : tyOff Try.prog 54 7 = some 7 := by kernel_rfl
@[simp] theorem pl54 : placeOf Try.prog 54 = some fun i => [(0, 1), (1, 1), (2, 1), (3, 1), (4, 1), (5, 1), (6, 1), (7, 1)][i]? := by
  have h : tyPlaces Try.prog 54 = some [(0, 1), (1, 1), (2, 1), (3, 1), (4, 1), (5, 1), (6, 1), (7, 1)] := by kernel_rfl
  simp only [placeOf, h]
@[simp] theorem ze54 : zeroA Try.prog 54 = some [.bool false, .str ⟨#[]⟩, .bool false, .int .i64 0, .int .i64 0, .int .i64 0, .int .i64 0, .int .i64 0] := by kernel_rfl
@[simp] theorem ta54 : tyApp Try.prog 54 = some 8 := by kernel_rfl
@[simp] theorem zr54 : zeroRow Try.prog 54 = some (.agg [.bool false, .str ⟨#[]⟩, .bool false, .int .i64 0, .int .i64 0, .int .i64 0, .int .i64 0, .int .i64 0]) := by kernel_rfl
@[simp] theorem eq54 : tyEq Try.prog 54 = some [.b, .s, .b, .i .i64, .i .i64, .i .i64, .i .i64, .i .i64] := by kernel_rfl
@[simp] theorem sz56 : tySize Try.prog 56 = some 4 := by kernel_rfl
@[simp] theorem ag56 : tyAgg Try.prog 56 = some true := by kernel_rfl
@[simp] theorem el56 : tyElem Try.prog 56 = none := by kernel_rfl
@[simp] theorem ar56 : tyArr Try.prog 56 = none := by kernel_rfl
@[simp] theorem st56 : tyStr Try.prog 56 = false := by kernel_rfl
@[simp] theorem in56 : tyInt Try.prog 56 = none := by kernel_rfl
@[simp] theorem un56 : (Try.prog.underlying 56).isSome = true := by kernel_rfl
@[simp] theorem fl56_0 : tyFld Try.prog 56 0 = some (0, 4) := by kernel_rfl
@[simp] theorem of56_0 : tyOff Try.prog 56 0 = some 0 := by kernel_rfl
@[simp] theorem fl56_1 : tyFld Try.prog 56 1 = some (1, 9) := by kernel_rfl
@[simp] theorem of56_1 : tyOff Try.prog 56 1 = some 1 := by kernel_rfl
@[simp] theorem fl56_2 : tyFld Try.prog 56 2 = some (2, 4) := by kernel_rfl
@[simp] theorem of56_2 : tyOff Try.prog 56 2 = some 2 := by kernel_rfl
@[simp] theorem fl56_3 : tyFld Try.prog 56 3 = some (3, 3) := by kernel_rfl
@[simp] theorem of56_3 : tyOff Try.prog 56 3 = some 3 := by kernel_rfl
@[simp] theorem pl56 : placeOf Try.prog 56 = some fun i => [(0, 1), (1, 1), (2, 1), (3, 1)][i]? := by
  have h : tyPlaces Try.prog 56 = some [(0, 1), (1, 1), (2, 1), (3, 1)] := by kernel_rfl
  simp only [placeOf, h]
@[simp] theorem ze56 : zeroA Try.prog 56 = some [.bool false, .str ⟨#[]⟩, .bool false, .int .i64 0] := by kernel_rfl
@[simp] theorem ta56 : tyApp Try.prog 56 = some 4 := by kernel_rfl
@[simp] theorem zr56 : zeroRow Try.prog 56 = some (.agg [.bool false, .str ⟨#[]⟩, .bool false, .int .i64 0]) := by kernel_rfl
@[simp] theorem eq56 : tyEq Try.prog 56 = some [.b, .s, .b, .i .i64] := by kernel_rfl
@[simp] theorem sz58 : tySize Try.prog 58 = some 2 := by kernel_rfl
@[simp] theorem ag58 : tyAgg Try.prog 58 = some true := by kernel_rfl
@[simp] theorem el58 : tyElem Try.prog 58 = none := by kernel_rfl
@[simp] theorem ar58 : tyArr Try.prog 58 = none := by kernel_rfl
@[simp] theorem st58 : tyStr Try.prog 58 = false := by kernel_rfl
@[simp] theorem in58 : tyInt Try.prog 58 = none := by kernel_rfl
@[simp] theorem un58 : (Try.prog.underlying 58).isSome = true := by kernel_rfl
@[simp] theorem fl58_0 : tyFld Try.prog 58 0 = some (0, 4) := by kernel_rfl
@[simp] theorem of58_0 : tyOff Try.prog 58 0 = some 0 := by kernel_rfl
@[simp] theorem fl58_1 : tyFld Try.prog 58 1 = some (1, 3) := by kernel_rfl
@[simp] theorem of58_1 : tyOff Try.prog 58 1 = some 1 := by kernel_rfl
@[simp] theorem pl58 : placeOf Try.prog 58 = some fun i => [(0, 1), (1, 1)][i]? := by
  have h : tyPlaces Try.prog 58 = some [(0, 1), (1, 1)] := by kernel_rfl
  simp only [placeOf, h]
@[simp] theorem ze58 : zeroA Try.prog 58 = some [.bool false, .int .i64 0] := by kernel_rfl
@[simp] theorem ta58 : tyApp Try.prog 58 = some 2 := by kernel_rfl
@[simp] theorem zr58 : zeroRow Try.prog 58 = some (.agg [.bool false, .int .i64 0]) := by kernel_rfl
@[simp] theorem eq58 : tyEq Try.prog 58 = some [.b, .i .i64] := by kernel_rfl
@[simp] theorem sz60 : tySize Try.prog 60 = some 33 := by kernel_rfl
@[simp] theorem ag60 : tyAgg Try.prog 60 = some true := by kernel_rfl
@[simp] theorem el60 : tyElem Try.prog 60 = none := by kernel_rfl
@[simp] theorem ar60 : tyArr Try.prog 60 = none := by kernel_rfl
@[simp] theorem st60 : tyStr Try.prog 60 = false := by kernel_rfl
@[simp] theorem in60 : tyInt Try.prog 60 = none := by kernel_rfl
@[simp] theorem un60 : (Try.prog.underlying 60).isSome = true := by kernel_rfl
@[simp] theorem fl60_0 : tyFld Try.prog 60 0 = some (0, 3) := by kernel_rfl
@[simp] theorem of60_0 : tyOff Try.prog 60 0 = some 0 := by kernel_rfl
@[simp] theorem fl60_1 : tyFld Try.prog 60 1 = some (1, 3) := by kernel_rfl
@[simp] theorem of60_1 : tyOff Try.prog 60 1 = some 1 := by kernel_rfl
@[simp] theorem fl60_2 : tyFld Try.prog 60 2 = some (2, 3) := by kernel_rfl
@[simp] theorem of60_2 : tyOff Try.prog 60 2 = some 2 := by kernel_rfl
@[simp] theorem fl60_3 : tyFld Try.prog 60 3 = some (3, 3) := by kernel_rfl
@[simp] theorem of60_3 : tyOff Try.prog 60 3 = some 3 := by kernel_rfl
@[simp] theorem fl60_4 : tyFld Try.prog 60 4 = some (4, 3) := by kernel_rfl
@[simp] theorem of60_4 : tyOff Try.prog 60 4 = some 4 := by kernel_rfl
@[simp] theorem fl60_5 : tyFld Try.prog 60 5 = some (5, 48) := by kernel_rfl
@[simp] theorem of60_5 : tyOff Try.prog 60 5 = some 5 := by kernel_rfl
@[simp] theorem fl60_6 : tyFld Try.prog 60 6 = some (6, 49) := by kernel_rfl
@[simp] theorem of60_6 : tyOff Try.prog 60 6 = some 6 := by kernel_rfl
@[simp] theorem fl60_7 : tyFld Try.prog 60 7 = some (7, 50) := by kernel_rfl
@[simp] theorem of60_7 : tyOff Try.prog 60 7 = some 7 := by kernel_rfl
@[simp] theorem fl60_8 : tyFld Try.prog 60 8 = some (8, 52) := by kernel_rfl
@[simp] theorem of60_8 : tyOff Try.prog 60 8 = some 8 := by kernel_rfl
@[simp] theorem fl60_9 : tyFld Try.prog 60 9 = some (14, 54) := by kernel_rfl
@[simp] theorem of60_9 : tyOff Try.prog 60 9 = some 14 := by kernel_rfl
@[simp] theorem fl60_10 : tyFld Try.prog 60 10 = some (22, 56) := by kernel_rfl
@[simp] theorem of60_10 : tyOff Try.prog 60 10 = some 22 := by kernel_rfl
@[simp] theorem fl60_11 : tyFld Try.prog 60 11 = some (26, 58) := by kernel_rfl
@[simp] theorem of60_11 : tyOff Try.prog 60 11 = some 26 := by kernel_rfl
@[simp] theorem fl60_12 : tyFld Try.prog 60 12 = some (28, 3) := by kernel_rfl
@[simp] theorem of60_12 : tyOff Try.prog 60 12 = some 28 := by kernel_rfl
@[simp] theorem fl60_13 : tyFld Try.prog 60 13 = some (29, 3) := by kernel_rfl
@[simp] theorem of60_13 : tyOff Try.prog 60 13 = some 29 := by kernel_rfl
@[simp] theorem fl60_14 : tyFld Try.prog 60 14 = some (30, 3) := by kernel_rfl
@[simp] theorem of60_14 : tyOff Try.prog 60 14 = some 30 := by kernel_rfl
@[simp] theorem fl60_15 : tyFld Try.prog 60 15 = some (31, 3) := by kernel_rfl
@[simp] theorem of60_15 : tyOff Try.prog 60 15 = some 31 := by kernel_rfl
@[simp] theorem fl60_16 : tyFld Try.prog 60 16 = some (32, 3) := by kernel_rfl
@[simp] theorem of60_16 : tyOff Try.prog 60 16 = some 32 := by kernel_rfl
@[simp] theorem pl60 : placeOf Try.prog 60 = some fun i => [(0, 1), (1, 1), (2, 1), (3, 1), (4, 1), (5, 1), (6, 1), (7, 1), (8, 6), (14, 8), (22, 4), (26, 2), (28, 1), (29, 1), (30, 1), (31, 1), (32, 1)][i]? := by
  have h : tyPlaces Try.prog 60 = some [(0, 1), (1, 1), (2, 1), (3, 1), (4, 1), (5, 1), (6, 1), (7, 1), (8, 6), (14, 8), (22, 4), (26, 2), (28, 1), (29, 1), (30, 1), (31, 1), (32, 1)] := by kernel_rfl
  simp only [placeOf, h]
@[simp] theorem ze60 : zeroA Try.prog 60 = some [.int .i64 0, .int .i64 0, .int .i64 0, .int .i64 0, .int .i64 0, .nils, .nils, .nils, .bool false, .str ⟨#[]⟩, .bool false, .int .i64 0, .int .i64 0, .bool false, .bool false, .str ⟨#[]⟩, .bool false, .int .i64 0, .int .i64 0, .int .i64 0, .int .i64 0, .int .i64 0, .bool false, .str ⟨#[]⟩, .bool false, .int .i64 0, .bool false, .int .i64 0, .int .i64 0, .int .i64 0, .int .i64 0, .int .i64 0, .int .i64 0] := by kernel_rfl
@[simp] theorem ta60 : tyApp Try.prog 60 = some 33 := by kernel_rfl
@[simp] theorem zr60 : zeroRow Try.prog 60 = some (.agg [.int .i64 0, .int .i64 0, .int .i64 0, .int .i64 0, .int .i64 0, .nils, .nils, .nils, .bool false, .str ⟨#[]⟩, .bool false, .int .i64 0, .int .i64 0, .bool false, .bool false, .str ⟨#[]⟩, .bool false, .int .i64 0, .int .i64 0, .int .i64 0, .int .i64 0, .int .i64 0, .bool false, .str ⟨#[]⟩, .bool false, .int .i64 0, .bool false, .int .i64 0, .int .i64 0, .int .i64 0, .int .i64 0, .int .i64 0, .int .i64 0]) := by kernel_rfl
@[simp] theorem sz70 : tySize Try.prog 70 = some 1 := by kernel_rfl
@[simp] theorem ag70 : tyAgg Try.prog 70 = some false := by kernel_rfl
@[simp] theorem el70 : tyElem Try.prog 70 = none := by kernel_rfl
@[simp] theorem ar70 : tyArr Try.prog 70 = none := by kernel_rfl
@[simp] theorem st70 : tyStr Try.prog 70 = false := by kernel_rfl
@[simp] theorem in70 : tyInt Try.prog 70 = some .u64 := by kernel_rfl
@[simp] theorem un70 : (Try.prog.underlying 70).isSome = true := by kernel_rfl
@[simp] theorem ze70 : zeroA Try.prog 70 = some [.int .u64 0] := by kernel_rfl
@[simp] theorem ta70 : tyApp Try.prog 70 = some 1 := by kernel_rfl
@[simp] theorem zr70 : zeroRow Try.prog 70 = some (.int .u64 0) := by kernel_rfl
@[simp] theorem sz72 : tySize Try.prog 72 = some 2 := by kernel_rfl
@[simp] theorem ag72 : tyAgg Try.prog 72 = some true := by kernel_rfl
@[simp] theorem el72 : tyElem Try.prog 72 = none := by kernel_rfl
@[simp] theorem ar72 : tyArr Try.prog 72 = some (2, 70) := by kernel_rfl
@[simp] theorem st72 : tyStr Try.prog 72 = false := by kernel_rfl
@[simp] theorem in72 : tyInt Try.prog 72 = none := by kernel_rfl
@[simp] theorem un72 : (Try.prog.underlying 72).isSome = true := by kernel_rfl
@[simp] theorem pl72 : placeOf Try.prog 72 = some fun i => some (i * 1, 1) := by
  have h : tyPlaces Try.prog 72 = none := by kernel_rfl
  have h1 : tyArr Try.prog 72 = some (2, 70) := by kernel_rfl
  have h2 : tySize Try.prog 70 = some 1 := by kernel_rfl
  simp only [placeOf, h, h1, h2, Option.map]
@[simp] theorem ze72 : zeroA Try.prog 72 = some [.int .u64 0, .int .u64 0] := by kernel_rfl
@[simp] theorem ta72 : tyApp Try.prog 72 = some 2 := by kernel_rfl
@[simp] theorem zr72 : zeroRow Try.prog 72 = some (.agg [.int .u64 0, .int .u64 0]) := by kernel_rfl
@[simp] theorem eq72 : tyEq Try.prog 72 = some [.i .u64, .i .u64] := by kernel_rfl
@[simp] theorem sz76 : tySize Try.prog 76 = some 2 := by kernel_rfl
@[simp] theorem ag76 : tyAgg Try.prog 76 = some true := by kernel_rfl
@[simp] theorem el76 : tyElem Try.prog 76 = none := by kernel_rfl
@[simp] theorem ar76 : tyArr Try.prog 76 = none := by kernel_rfl
@[simp] theorem st76 : tyStr Try.prog 76 = false := by kernel_rfl
@[simp] theorem in76 : tyInt Try.prog 76 = none := by kernel_rfl
@[simp] theorem un76 : (Try.prog.underlying 76).isSome = true := by kernel_rfl
@[simp] theorem fl76_0 : tyFld Try.prog 76 0 = some (0, 3) := by kernel_rfl
@[simp] theorem of76_0 : tyOff Try.prog 76 0 = some 0 := by kernel_rfl
@[simp] theorem fl76_1 : tyFld Try.prog 76 1 = some (1, 3) := by kernel_rfl
@[simp] theorem of76_1 : tyOff Try.prog 76 1 = some 1 := by kernel_rfl
@[simp] theorem pl76 : placeOf Try.prog 76 = some fun i => [(0, 1), (1, 1)][i]? := by
  have h : tyPlaces Try.prog 76 = some [(0, 1), (1, 1)] := by kernel_rfl
  simp only [placeOf, h]
@[simp] theorem ze76 : zeroA Try.prog 76 = some [.int .i64 0, .int .i64 0] := by kernel_rfl
@[simp] theorem ta76 : tyApp Try.prog 76 = some 2 := by kernel_rfl
@[simp] theorem zr76 : zeroRow Try.prog 76 = some (.agg [.int .i64 0, .int .i64 0]) := by kernel_rfl
@[simp] theorem eq76 : tyEq Try.prog 76 = some [.i .i64, .i .i64] := by kernel_rfl
@[simp] theorem sz88 : tySize Try.prog 88 = some 1 := by kernel_rfl
@[simp] theorem ag88 : tyAgg Try.prog 88 = some false := by kernel_rfl
@[simp] theorem el88 : tyElem Try.prog 88 = some 4 := by kernel_rfl
@[simp] theorem ar88 : tyArr Try.prog 88 = none := by kernel_rfl
@[simp] theorem st88 : tyStr Try.prog 88 = false := by kernel_rfl
@[simp] theorem in88 : tyInt Try.prog 88 = none := by kernel_rfl
@[simp] theorem un88 : (Try.prog.underlying 88).isSome = true := by kernel_rfl
@[simp] theorem ze88 : zeroA Try.prog 88 = some [.nils] := by kernel_rfl
@[simp] theorem ta88 : tyApp Try.prog 88 = some 1 := by kernel_rfl
@[simp] theorem zr88 : zeroRow Try.prog 88 = some (.nils) := by kernel_rfl
@[simp] theorem sz90 : tySize Try.prog 90 = some 3 := by kernel_rfl
@[simp] theorem ag90 : tyAgg Try.prog 90 = some true := by kernel_rfl
@[simp] theorem el90 : tyElem Try.prog 90 = none := by kernel_rfl
@[simp] theorem ar90 : tyArr Try.prog 90 = none := by kernel_rfl
@[simp] theorem st90 : tyStr Try.prog 90 = false := by kernel_rfl
@[simp] theorem in90 : tyInt Try.prog 90 = none := by kernel_rfl
@[simp] theorem un90 : (Try.prog.underlying 90).isSome = true := by kernel_rfl
@[simp] theorem fl90_0 : tyFld Try.prog 90 0 = some (0, 3) := by kernel_rfl
@[simp] theorem of90_0 : tyOff Try.prog 90 0 = some 0 := by kernel_rfl
@[simp] theorem fl90_1 : tyFld Try.prog 90 1 = some (1, 3) := by kernel_rfl
@[simp] theorem of90_1 : tyOff Try.prog 90 1 = some 1 := by kernel_rfl
@[simp] theorem fl90_2 : tyFld Try.prog 90 2 = some (2, 22) := by kernel_rfl
@[simp] theorem of90_2 : tyOff Try.prog 90 2 = some 2 := by kernel_rfl
@[simp] theorem pl90 : placeOf Try.prog 90 = some fun i => [(0, 1), (1, 1), (2, 1)][i]? := by
  have h : tyPlaces Try.prog 90 = some [(0, 1), (1, 1), (2, 1)] := by kernel_rfl
  simp only [placeOf, h]
@[simp] theorem ze90 : zeroA Try.prog 90 = some [.int .i64 0, .int .i64 0, .nils] := by kernel_rfl
@[simp] theorem ta90 : tyApp Try.prog 90 = some 3 := by kernel_rfl
@[simp] theorem zr90 : zeroRow Try.prog 90 = some (.agg [.int .i64 0, .int .i64 0, .nils]) := by kernel_rfl
@[simp] theorem sz96 : tySize Try.prog 96 = some 2 := by kernel_rfl
@[simp] theorem ag96 : tyAgg Try.prog 96 = some true := by kernel_rfl
@[simp] theorem el96 : tyElem Try.prog 96 = none := by kernel_rfl
@[simp] theorem ar96 : tyArr Try.prog 96 = none := by kernel_rfl
@[simp] theorem st96 : tyStr Try.prog 96 = false := by kernel_rfl
@[simp] theorem in96 : tyInt Try.prog 96 = none := by kernel_rfl
@[simp] theorem un96 : (Try.prog.underlying 96).isSome = true := by kernel_rfl
@[simp] theorem fl96_0 : tyFld Try.prog 96 0 = some (0, 3) := by kernel_rfl
@[simp] theorem of96_0 : tyOff Try.prog 96 0 = some 0 := by kernel_rfl
@[simp] theorem fl96_1 : tyFld Try.prog 96 1 = some (1, 3) := by kernel_rfl
@[simp] theorem of96_1 : tyOff Try.prog 96 1 = some 1 := by kernel_rfl
@[simp] theorem pl96 : placeOf Try.prog 96 = some fun i => [(0, 1), (1, 1)][i]? := by
  have h : tyPlaces Try.prog 96 = some [(0, 1), (1, 1)] := by kernel_rfl
  simp only [placeOf, h]
@[simp] theorem ze96 : zeroA Try.prog 96 = some [.int .i64 0, .int .i64 0] := by kernel_rfl
@[simp] theorem ta96 : tyApp Try.prog 96 = some 2 := by kernel_rfl
@[simp] theorem zr96 : zeroRow Try.prog 96 = some (.agg [.int .i64 0, .int .i64 0]) := by kernel_rfl
@[simp] theorem eq96 : tyEq Try.prog 96 = some [.i .i64, .i .i64] := by kernel_rfl
@[simp] theorem sz118 : tySize Try.prog 118 = some 1 := by kernel_rfl
@[simp] theorem ag118 : tyAgg Try.prog 118 = some false := by kernel_rfl
@[simp] theorem el118 : tyElem Try.prog 118 = none := by kernel_rfl
@[simp] theorem ar118 : tyArr Try.prog 118 = none := by kernel_rfl
@[simp] theorem st118 : tyStr Try.prog 118 = false := by kernel_rfl
@[simp] theorem in118 : tyInt Try.prog 118 = none := by kernel_rfl
@[simp] theorem un118 : (Try.prog.underlying 118).isSome = true := by kernel_rfl
@[simp] theorem ze118 : zeroA Try.prog 118 = some [.nilfn] := by kernel_rfl
@[simp] theorem ta118 : tyApp Try.prog 118 = some 1 := by kernel_rfl
@[simp] theorem zr118 : zeroRow Try.prog 118 = some (.nilfn) := by kernel_rfl
@[simp] theorem sz124 : tySize Try.prog 124 = some 1 := by kernel_rfl
@[simp] theorem ag124 : tyAgg Try.prog 124 = some false := by kernel_rfl
@[simp] theorem el124 : tyElem Try.prog 124 = none := by kernel_rfl
@[simp] theorem ar124 : tyArr Try.prog 124 = none := by kernel_rfl
@[simp] theorem st124 : tyStr Try.prog 124 = false := by kernel_rfl
@[simp] theorem in124 : tyInt Try.prog 124 = none := by kernel_rfl
@[simp] theorem un124 : (Try.prog.underlying 124).isSome = true := by kernel_rfl
@[simp] theorem ze124 : zeroA Try.prog 124 = some [.nilm] := by kernel_rfl
@[simp] theorem ta124 : tyApp Try.prog 124 = some 1 := by kernel_rfl
@[simp] theorem zr124 : zeroRow Try.prog 124 = some (.nilm) := by kernel_rfl
@[simp] theorem tm124 : tyMap Try.prog 124 = some (3, 3) := by kernel_rfl
@[simp] theorem kt124 : keyTy Try.prog 3 = some (false, [.i .i64]) := by kernel_rfl
@[simp] theorem zv124 : zeroVal Try.prog 3 = some (.int .i64 0) := by kernel_rfl
@[simp] theorem sz129 : tySize Try.prog 129 = some 1 := by kernel_rfl
@[simp] theorem ag129 : tyAgg Try.prog 129 = some false := by kernel_rfl
@[simp] theorem el129 : tyElem Try.prog 129 = none := by kernel_rfl
@[simp] theorem ar129 : tyArr Try.prog 129 = none := by kernel_rfl
@[simp] theorem st129 : tyStr Try.prog 129 = false := by kernel_rfl
@[simp] theorem in129 : tyInt Try.prog 129 = some .u64 := by kernel_rfl
@[simp] theorem un129 : (Try.prog.underlying 129).isSome = true := by kernel_rfl
@[simp] theorem ze129 : zeroA Try.prog 129 = some [.int .u64 0] := by kernel_rfl
@[simp] theorem ta129 : tyApp Try.prog 129 = some 1 := by kernel_rfl
@[simp] theorem zr129 : zeroRow Try.prog 129 = some (.int .u64 0) := by kernel_rfl
@[simp] theorem sz137 : tySize Try.prog 137 = some 1 := by kernel_rfl
@[simp] theorem ag137 : tyAgg Try.prog 137 = some false := by kernel_rfl
@[simp] theorem el137 : tyElem Try.prog 137 = none := by kernel_rfl
@[simp] theorem ar137 : tyArr Try.prog 137 = none := by kernel_rfl
@[simp] theorem st137 : tyStr Try.prog 137 = false := by kernel_rfl
@[simp] theorem in137 : tyInt Try.prog 137 = none := by kernel_rfl
@[simp] theorem un137 : (Try.prog.underlying 137).isSome = true := by kernel_rfl
@[simp] theorem ze137 : zeroA Try.prog 137 = some [.nilfn] := by kernel_rfl
@[simp] theorem ta137 : tyApp Try.prog 137 = some 1 := by kernel_rfl
@[simp] theorem zr137 : zeroRow Try.prog 137 = some (.nilfn) := by kernel_rfl
@[simp] theorem sz143 : tySize Try.prog 143 = some 1 := by kernel_rfl
@[simp] theorem ag143 : tyAgg Try.prog 143 = some false := by kernel_rfl
@[simp] theorem el143 : tyElem Try.prog 143 = none := by kernel_rfl
@[simp] theorem ar143 : tyArr Try.prog 143 = none := by kernel_rfl
@[simp] theorem st143 : tyStr Try.prog 143 = false := by kernel_rfl
@[simp] theorem in143 : tyInt Try.prog 143 = none := by kernel_rfl
@[simp] theorem un143 : (Try.prog.underlying 143).isSome = true := by kernel_rfl
@[simp] theorem ze143 : zeroA Try.prog 143 = some [.nilfn] := by kernel_rfl
@[simp] theorem ta143 : tyApp Try.prog 143 = some 1 := by kernel_rfl
@[simp] theorem zr143 : zeroRow Try.prog 143 = some (.nilfn) := by kernel_rfl
@[simp] theorem sz145 : tySize Try.prog 145 = some 2 := by kernel_rfl
@[simp] theorem ag145 : tyAgg Try.prog 145 = some true := by kernel_rfl
@[simp] theorem el145 : tyElem Try.prog 145 = none := by kernel_rfl
@[simp] theorem ar145 : tyArr Try.prog 145 = none := by kernel_rfl
@[simp] theorem st145 : tyStr Try.prog 145 = false := by kernel_rfl
@[simp] theorem in145 : tyInt Try.prog 145 = none := by kernel_rfl
@[simp] theorem un145 : (Try.prog.underlying 145).isSome = true := by kernel_rfl
@[simp] theorem fl145_0 : tyFld Try.prog 145 0 = some (0, 3) := by kernel_rfl
@[simp] theorem of145_0 : tyOff Try.prog 145 0 = some 0 := by kernel_rfl
@[simp] theorem fl145_1 : tyFld Try.prog 145 1 = some (1, 143) := by kernel_rfl
@[simp] theorem of145_1 : tyOff Try.prog 145 1 = some 1 := by kernel_rfl
@[simp] theorem pl145 : placeOf Try.prog 145 = some fun i => [(0, 1), (1, 1)][i]? := by
  have h : tyPlaces Try.prog 145 = some [(0, 1), (1, 1)] := by kernel_rfl
  simp only [placeOf, h]
@[simp] theorem ze145 : zeroA Try.prog 145 = some [.int .i64 0, .nilfn] := by kernel_rfl
@[simp] theorem ta145 : tyApp Try.prog 145 = some 2 := by kernel_rfl
@[simp] theorem zr145 : zeroRow Try.prog 145 = some (.agg [.int .i64 0, .nilfn]) := by kernel_rfl
@[simp] theorem sz159 : tySize Try.prog 159 = some 3 := by kernel_rfl
@[simp] theorem ag159 : tyAgg Try.prog 159 = some true := by kernel_rfl
@[simp] theorem el159 : tyElem Try.prog 159 = none := by kernel_rfl
@[simp] theorem ar159 : tyArr Try.prog 159 = none := by kernel_rfl
@[simp] theorem st159 : tyStr Try.prog 159 = false := by kernel_rfl
@[simp] theorem in159 : tyInt Try.prog 159 = none := by kernel_rfl
@[simp] theorem un159 : (Try.prog.underlying 159).isSome = true := by kernel_rfl
@[simp] theorem fl159_0 : tyFld Try.prog 159 0 = some (0, 4) := by kernel_rfl
@[simp] theorem of159_0 : tyOff Try.prog 159 0 = some 0 := by kernel_rfl
@[simp] theorem fl159_1 : tyFld Try.prog 159 1 = some (1, 3) := by kernel_rfl
@[simp] theorem of159_1 : tyOff Try.prog 159 1 = some 1 := by kernel_rfl
@[simp] theorem fl159_2 : tyFld Try.prog 159 2 = some (2, 4) := by kernel_rfl
@[simp] theorem of159_2 : tyOff Try.prog 159 2 = some 2 := by kernel_rfl
@[simp] theorem pl159 : placeOf Try.prog 159 = some fun i => [(0, 1), (1, 1), (2, 1)][i]? := by
  have h : tyPlaces Try.prog 159 = some [(0, 1), (1, 1), (2, 1)] := by kernel_rfl
  simp only [placeOf, h]
@[simp] theorem ze159 : zeroA Try.prog 159 = some [.bool false, .int .i64 0, .bool false] := by kernel_rfl
@[simp] theorem ta159 : tyApp Try.prog 159 = some 3 := by kernel_rfl
@[simp] theorem zr159 : zeroRow Try.prog 159 = some (.agg [.bool false, .int .i64 0, .bool false]) := by kernel_rfl
@[simp] theorem eq159 : tyEq Try.prog 159 = some [.b, .i .i64, .b] := by kernel_rfl
@[simp] theorem sz176 : tySize Try.prog 176 = some 6 := by kernel_rfl
@[simp] theorem ag176 : tyAgg Try.prog 176 = some true := by kernel_rfl
@[simp] theorem el176 : tyElem Try.prog 176 = none := by kernel_rfl
@[simp] theorem ar176 : tyArr Try.prog 176 = some (6, 3) := by kernel_rfl
@[simp] theorem st176 : tyStr Try.prog 176 = false := by kernel_rfl
@[simp] theorem in176 : tyInt Try.prog 176 = none := by kernel_rfl
@[simp] theorem un176 : (Try.prog.underlying 176).isSome = true := by kernel_rfl
@[simp] theorem pl176 : placeOf Try.prog 176 = some fun i => some (i * 1, 1) := by
  have h : tyPlaces Try.prog 176 = none := by kernel_rfl
  have h1 : tyArr Try.prog 176 = some (6, 3) := by kernel_rfl
  have h2 : tySize Try.prog 3 = some 1 := by kernel_rfl
  simp only [placeOf, h, h1, h2, Option.map]
@[simp] theorem ze176 : zeroA Try.prog 176 = some [.int .i64 0, .int .i64 0, .int .i64 0, .int .i64 0, .int .i64 0, .int .i64 0] := by kernel_rfl
@[simp] theorem ta176 : tyApp Try.prog 176 = some 6 := by kernel_rfl
@[simp] theorem zr176 : zeroRow Try.prog 176 = some (.agg [.int .i64 0, .int .i64 0, .int .i64 0, .int .i64 0, .int .i64 0, .int .i64 0]) := by kernel_rfl
@[simp] theorem eq176 : tyEq Try.prog 176 = some [.i .i64, .i .i64, .i .i64, .i .i64, .i .i64, .i .i64] := by kernel_rfl
@[simp] theorem ok2 : fnOk Try.prog 2 = true := by kernel_rfl
@[simp] theorem ok3 : fnOk Try.prog 3 = true := by kernel_rfl
@[simp] theorem ok4 : fnOk Try.prog 4 = true := by kernel_rfl
@[simp] theorem ok5 : fnOk Try.prog 5 = true := by kernel_rfl
@[simp] theorem ok6 : fnOk Try.prog 6 = true := by kernel_rfl
@[simp] theorem ok7 : fnOk Try.prog 7 = true := by kernel_rfl
@[simp] theorem ok8 : fnOk Try.prog 8 = true := by kernel_rfl
@[simp] theorem ok9 : fnOk Try.prog 9 = true := by kernel_rfl
@[simp] theorem ok10 : fnOk Try.prog 10 = true := by kernel_rfl
@[simp] theorem ok11 : fnOk Try.prog 11 = true := by kernel_rfl
@[simp] theorem ok12 : fnOk Try.prog 12 = true := by kernel_rfl
@[simp] theorem ok13 : fnOk Try.prog 13 = true := by kernel_rfl
@[simp] theorem ok14 : fnOk Try.prog 14 = true := by kernel_rfl
@[simp] theorem ok15 : fnOk Try.prog 15 = true := by kernel_rfl
@[simp] theorem ok16 : fnOk Try.prog 16 = true := by kernel_rfl
@[simp] theorem ok17 : fnOk Try.prog 17 = true := by kernel_rfl
@[simp] theorem ok18 : fnOk Try.prog 18 = true := by kernel_rfl
@[simp] theorem ok19 : fnOk Try.prog 19 = true := by kernel_rfl
@[simp] theorem ok20 : fnOk Try.prog 20 = true := by kernel_rfl
@[simp] theorem ok21 : fnOk Try.prog 21 = true := by kernel_rfl
@[simp] theorem ok22 : fnOk Try.prog 22 = true := by kernel_rfl
@[simp] theorem ok23 : fnOk Try.prog 23 = true := by kernel_rfl
@[simp] theorem ok24 : fnOk Try.prog 24 = true := by kernel_rfl
@[simp] theorem ok25 : fnOk Try.prog 25 = true := by kernel_rfl
@[simp] theorem ok26 : fnOk Try.prog 26 = true := by kernel_rfl
@[simp] theorem ok27 : fnOk Try.prog 27 = true := by kernel_rfl
@[simp] theorem ok28 : fnOk Try.prog 28 = true := by kernel_rfl
@[simp] theorem ok29 : fnOk Try.prog 29 = true := by kernel_rfl
@[simp] theorem ok30 : fnOk Try.prog 30 = true := by kernel_rfl
@[simp] theorem ok31 : fnOk Try.prog 31 = true := by kernel_rfl
@[simp] theorem ok32 : fnOk Try.prog 32 = true := by kernel_rfl
@[simp] theorem ok33 : fnOk Try.prog 33 = true := by kernel_rfl
@[simp] theorem ok34 : fnOk Try.prog 34 = true := by kernel_rfl
@[simp] theorem ok35 : fnOk Try.prog 35 = true := by kernel_rfl
@[simp] theorem ok36 : fnOk Try.prog 36 = true := by kernel_rfl
@[simp] theorem ok37 : fnOk Try.prog 37 = true := by kernel_rfl
@[simp] theorem ok38 : fnOk Try.prog 38 = true := by kernel_rfl
@[simp] theorem ok39 : fnOk Try.prog 39 = true := by kernel_rfl
@[simp] theorem ok40 : fnOk Try.prog 40 = true := by kernel_rfl
@[simp] theorem ok41 : fnOk Try.prog 41 = true := by kernel_rfl
@[simp] theorem ok42 : fnOk Try.prog 42 = true := by kernel_rfl
@[simp] theorem ok43 : fnOk Try.prog 43 = true := by kernel_rfl
@[simp] theorem ok44 : fnOk Try.prog 44 = true := by kernel_rfl
@[simp] theorem ok45 : fnOk Try.prog 45 = true := by kernel_rfl
@[simp] theorem ok46 : fnOk Try.prog 46 = true := by kernel_rfl
@[simp] theorem ok47 : fnOk Try.prog 47 = true := by kernel_rfl
@[simp] theorem ok48 : fnOk Try.prog 48 = true := by kernel_rfl
@[simp] theorem ok49 : fnOk Try.prog 49 = true := by kernel_rfl
@[simp] theorem ok50 : fnOk Try.prog 50 = true := by kernel_rfl
@[simp] theorem ok51 : fnOk Try.prog 51 = true := by kernel_rfl
@[simp] theorem ok52 : fnOk Try.prog 52 = true := by kernel_rfl
@[simp] theorem ok53 : fnOk Try.prog 53 = true := by kernel_rfl
@[simp] theorem ok54 : fnOk Try.prog 54 = true := by kernel_rfl
@[simp] theorem ok55 : fnOk Try.prog 55 = true := by kernel_rfl
@[simp] theorem ok56 : fnOk Try.prog 56 = true := by kernel_rfl
@[simp] theorem ok57 : fnOk Try.prog 57 = true := by kernel_rfl
@[simp] theorem ok58 : fnOk Try.prog 58 = true := by kernel_rfl
@[simp] theorem ok59 : fnOk Try.prog 59 = true := by kernel_rfl
@[simp] theorem ok60 : fnOk Try.prog 60 = true := by kernel_rfl
@[simp] theorem ok61 : fnOk Try.prog 61 = true := by kernel_rfl
@[simp] theorem ok62 : fnOk Try.prog 62 = true := by kernel_rfl
@[simp] theorem ok63 : fnOk Try.prog 63 = true := by kernel_rfl
@[simp] theorem ok64 : fnOk Try.prog 64 = true := by kernel_rfl
@[simp] theorem ok65 : fnOk Try.prog 65 = true := by kernel_rfl
@[simp] theorem ok66 : fnOk Try.prog 66 = true := by kernel_rfl
@[simp] theorem ok67 : fnOk Try.prog 67 = true := by kernel_rfl
@[simp] theorem ok68 : fnOk Try.prog 68 = true := by kernel_rfl
@[simp] theorem ok69 : fnOk Try.prog 69 = true := by kernel_rfl
@[simp] theorem ok70 : fnOk Try.prog 70 = true := by kernel_rfl
@[simp] theorem ok71 : fnOk Try.prog 71 = true := by kernel_rfl
@[simp] theorem ok72 : fnOk Try.prog 72 = true := by kernel_rfl
@[simp] theorem ok73 : fnOk Try.prog 73 = true := by kernel_rfl
@[simp] theorem ok74 : fnOk Try.prog 74 = true := by kernel_rfl
@[simp] theorem ok75 : fnOk Try.prog 75 = true := by kernel_rfl
@[simp] theorem ok76 : fnOk Try.prog 76 = true := by kernel_rfl
@[simp] theorem ok77 : fnOk Try.prog 77 = true := by kernel_rfl
@[simp] theorem ok78 : fnOk Try.prog 78 = true := by kernel_rfl
@[simp] theorem ok79 : fnOk Try.prog 79 = true := by kernel_rfl
@[simp] theorem ok80 : fnOk Try.prog 80 = true := by kernel_rfl
@[simp] theorem ok81 : fnOk Try.prog 81 = true := by kernel_rfl
@[simp] theorem ok82 : fnOk Try.prog 82 = true := by kernel_rfl
@[simp] theorem ok83 : fnOk Try.prog 83 = true := by kernel_rfl
@[simp] theorem ok84 : fnOk Try.prog 84 = true := by kernel_rfl
@[simp] theorem ok85 : fnOk Try.prog 85 = true := by kernel_rfl
@[simp] theorem ok86 : fnOk Try.prog 86 = true := by kernel_rfl
@[simp] theorem ok87 : fnOk Try.prog 87 = true := by kernel_rfl
@[simp] theorem ok88 : fnOk Try.prog 88 = true := by kernel_rfl
@[simp] theorem ok89 : fnOk Try.prog 89 = true := by kernel_rfl
@[simp] theorem ok90 : fnOk Try.prog 90 = true := by kernel_rfl
@[simp] theorem ok91 : fnOk Try.prog 91 = true := by kernel_rfl
@[simp] theorem ok92 : fnOk Try.prog 92 = true := by kernel_rfl
@[simp] theorem ok93 : fnOk Try.prog 93 = true := by kernel_rfl
@[simp] theorem ok94 : fnOk Try.prog 94 = true := by kernel_rfl
@[simp] theorem ok95 : fnOk Try.prog 95 = true := by kernel_rfl
@[simp] theorem ok96 : fnOk Try.prog 96 = true := by kernel_rfl
@[simp] theorem ok97 : fnOk Try.prog 97 = true := by kernel_rfl
@[simp] theorem ok98 : fnOk Try.prog 98 = true := by kernel_rfl
@[simp] theorem ok99 : fnOk Try.prog 99 = true := by kernel_rfl
@[simp] theorem ok100 : fnOk Try.prog 100 = true := by kernel_rfl
@[simp] theorem ok101 : fnOk Try.prog 101 = true := by kernel_rfl
@[simp] theorem ok102 : fnOk Try.prog 102 = true := by kernel_rfl
@[simp] theorem ok103 : fnOk Try.prog 103 = true := by kernel_rfl
@[simp] theorem ok104 : fnOk Try.prog 104 = true := by kernel_rfl
@[simp] theorem ok105 : fnOk Try.prog 105 = true := by kernel_rfl
@[simp] theorem ok106 : fnOk Try.prog 106 = true := by kernel_rfl
@[simp] theorem ok107 : fnOk Try.prog 107 = true := by kernel_rfl
@[simp] theorem ok108 : fnOk Try.prog 108 = true := by kernel_rfl
@[simp] theorem ok109 : fnOk Try.prog 109 = true := by kernel_rfl
@[simp] theorem ok110 : fnOk Try.prog 110 = true := by kernel_rfl
@[simp] theorem ok111 : fnOk Try.prog 111 = true := by kernel_rfl
@[simp] theorem ok112 : fnOk Try.prog 112 = true := by kernel_rfl
@[simp] theorem ok113 : fnOk Try.prog 113 = true := by kernel_rfl
@[simp] theorem ok114 : fnOk Try.prog 114 = true := by kernel_rfl
@[simp] theorem ok115 : fnOk Try.prog 115 = true := by kernel_rfl
@[simp] theorem ok116 : fnOk Try.prog 116 = true := by kernel_rfl
@[simp] theorem ok117 : fnOk Try.prog 117 = true := by kernel_rfl
@[simp] theorem ok118 : fnOk Try.prog 118 = true := by kernel_rfl
@[simp] theorem ok119 : fnOk Try.prog 119 = true := by kernel_rfl
@[simp] theorem ok120 : fnOk Try.prog 120 = true := by kernel_rfl
@[simp] theorem ok121 : fnOk Try.prog 121 = true := by kernel_rfl
@[simp] theorem ok122 : fnOk Try.prog 122 = true := by kernel_rfl
@[simp] theorem ok123 : fnOk Try.prog 123 = true := by kernel_rfl
@[simp] theorem ok124 : fnOk Try.prog 124 = true := by kernel_rfl
@[simp] theorem ok125 : fnOk Try.prog 125 = true := by kernel_rfl
@[simp] theorem ok126 : fnOk Try.prog 126 = true := by kernel_rfl
@[simp] theorem ok127 : fnOk Try.prog 127 = true := by kernel_rfl
@[simp] theorem ok128 : fnOk Try.prog 128 = true := by kernel_rfl
@[simp] theorem ok129 : fnOk Try.prog 129 = true := by kernel_rfl
@[simp] theorem ok130 : fnOk Try.prog 130 = true := by kernel_rfl
@[simp] theorem ok131 : fnOk Try.prog 131 = true := by kernel_rfl
@[simp] theorem ok132 : fnOk Try.prog 132 = true := by kernel_rfl
@[simp] theorem ok133 : fnOk Try.prog 133 = true := by kernel_rfl
@[simp] theorem ok134 : fnOk Try.prog 134 = true := by kernel_rfl
@[simp] theorem ok135 : fnOk Try.prog 135 = true := by kernel_rfl
@[simp] theorem ok136 : fnOk Try.prog 136 = true := by kernel_rfl
@[simp] theorem ok137 : fnOk Try.prog 137 = true := by kernel_rfl
@[simp] theorem ok138 : fnOk Try.prog 138 = true := by kernel_rfl
@[simp] theorem ok139 : fnOk Try.prog 139 = true := by kernel_rfl
@[simp] theorem ok140 : fnOk Try.prog 140 = true := by kernel_rfl
@[simp] theorem ok141 : fnOk Try.prog 141 = true := by kernel_rfl
@[simp] theorem ok142 : fnOk Try.prog 142 = true := by kernel_rfl
@[simp] theorem ok143 : fnOk Try.prog 143 = true := by kernel_rfl
@[simp] theorem ok144 : fnOk Try.prog 144 = true := by kernel_rfl
@[simp] theorem ok145 : fnOk Try.prog 145 = true := by kernel_rfl
@[simp] theorem ok146 : fnOk Try.prog 146 = true := by kernel_rfl
@[simp] theorem ok147 : fnOk Try.prog 147 = true := by kernel_rfl
@[simp] theorem ok148 : fnOk Try.prog 148 = true := by kernel_rfl
@[simp] theorem ok149 : fnOk Try.prog 149 = true := by kernel_rfl
@[simp] theorem ok150 : fnOk Try.prog 150 = true := by kernel_rfl
@[simp] theorem ok151 : fnOk Try.prog 151 = true := by kernel_rfl
@[simp] theorem ok152 : fnOk Try.prog 152 = true := by kernel_rfl
@[simp] theorem ok154 : fnOk Try.prog 154 = true := by kernel_rfl
@[simp] theorem ok155 : fnOk Try.prog 155 = true := by kernel_rfl
@[simp] theorem ok156 : fnOk Try.prog 156 = true := by kernel_rfl
@[simp] theorem ok157 : fnOk Try.prog 157 = true := by kernel_rfl
@[simp] theorem ok158 : fnOk Try.prog 158 = true := by kernel_rfl
@[simp] theorem ok159 : fnOk Try.prog 159 = true := by kernel_rfl
@[simp] theorem ok160 : fnOk Try.prog 160 = true := by kernel_rfl
@[simp] theorem ok161 : fnOk Try.prog 161 = true := by kernel_rfl
end Go.Proofs.Ytamakciboibpmaa.Fx
