import Derived.Test.YtdcknaoamjlaiaaZGateGuardsGn0
import Derived.Test.YtdcknaoamjlaiaaZGateGuardsGn1
import Derived.Test.YtdcknaoamjlaiaaZGateGuardsGn3
import Derived.Test.YtdcknaoamjlaiaaZGateGuardsGn11
import Derived.Test.YtdcknaoamjlaiaaZGateGuardsGn52
import Derived.Test.YtdcknaoamjlaiaaZGateGuardsGn54
import Derived.Test.YtdcknaoamjlaiaaZGateGuardsGn55
import Derived.Test.YtdcknaoamjlaiaaZGateGuardsGn68
import Derived.Test.YtdcknaoamjlaiaaZGateGuardsGn73
import Derived.Test.YtdcknaoamjlaiaaZGateGuardsGn75
namespace Go.Proofs.Ytdcknaoamjlaiaa.Gn
open Go.RowKit Go.Proofs.YtdcknaoamjlaiaaW.PrintWords Go.Proofs.YtdcknaoamjlaiaaW.PrintLast Go.Proofs.YtdcknaoamjlaiaaW.PrintMore
attribute [local go_sem] max2_int min2_int max_two min_two max_three min_three max_four min_four   -- for this text's walks alone
set_option linter.unusedVariables false
set_option linter.unusedSimpArgs false
attribute [local go_sem high] eqA76
mutual
def bellwetherlaw23_GateGuards.j0 : Nat → Int → ByteArray → Int → Bool → Int → Int → Int → Int → Int → Int → Int → Int → Int → Int → List Int → Int → Int → Int → ByteArray → Int → ByteArray → ByteArray → Int → Int → ByteArray → ByteArray → ByteArray → ByteArray → ByteArray → ByteArray → List (S140) → List ByteArray → List (S142) → Int → Int → Int → Int → Int → Int → ByteArray → Int → ByteArray → Int → Int → ByteArray → ByteArray → Int → ByteArray → Int → Int → ByteArray → Option (Bool)
 | 0, _, _, _, _, _, _, _, _, _, _, _, _, _, _, _, _, _, _, _, _, _, _, _, _, _, _, _, _, _, _, _, _, _, _, _, _, _, _, _, _, _, _, _, _, _, _, _, _, _, _, _ => none
 | k + 1, x2, x10, x11, x40, x795000, x795001, x795002, x795003, x795004, x795005, x795006, x795007, x795008, x795009, x795010, x796000, x796001, x796002, x796003, x796004, x796005, x796006, x796007, x796008, x796009, x796010, x796011, x796012, x796013, x796014, x796015, x796016, x796017, x796018, x796019, x796020, x796021, x796022, x796023, x797000, x797001, x797002, x797003, x797004, x797005, x807000, x807001, x807002, x807003, x807004, x807005 => if x40 = true then (none) else ((gate_Guard.f k x795000 x795001 x795002 x795003 x795004 x795005 x795006 x795007 x795008 x795009 x795010 x796000 x796001 x796002 x796003 x796004 x796005 x796006 x796007 x796008 x796009 x796010 x796011 x796012 x796013 x796014 x796015 x796016 x796017 x796018 x796019 x796020 x796021 x796022 x796023 x2 x797000 x797001 x797002 x797003 x797004 x797005).bind fun bt825 => (if bt825.2.2.2.1 = 0 then (bellwetherlaw23_GateGuards.j1 k x2 x10 x11 false x795000 x795001 x795002 x795003 x795004 x795005 x795006 x795007 x795008 x795009 x795010 x796000 x796001 x796002 x796003 x796004 x796005 x796006 x796007 x796008 x796009 x796010 x796011 x796012 x796013 x796014 x796015 x796016 x796017 x796018 x796019 x796020 x796021 x796022 x796023 x807000 x807001 x807002 x807003 x807004 x807005) else (if (!(bt825.1.toList == x797000.toList) || (!(bt825.2.1 == x797001) || (!(bt825.2.2.1.toList == x797002.toList) || (!(bt825.2.2.2.1 == x797003) || (!(bt825.2.2.2.2.1 == x797004) || (!(bt825.2.2.2.2.2.toList == x797005.toList))))))) = true then (bellwetherlaw23_GateGuards.j1 k x2 x10 x11 true x795000 x795001 x795002 x795003 x795004 x795005 x795006 x795007 x795008 x795009 x795010 x796000 x796001 x796002 x796003 x796004 x796005 x796006 x796007 x796008 x796009 x796010 x796011 x796012 x796013 x796014 x796015 x796016 x796017 x796018 x796019 x796020 x796021 x796022 x796023 x807000 x807001 x807002 x807003 x807004 x807005) else ((bellwetherref21_Owner.f k x795000 x795001 x795002 x795003 x795004 x795005 x795006 x795007 x795008 x795009 x795010 (wrap64 (bt825.2.2.2.1 - 1))).bind fun t832 => (if t832 = x2 then (if bt825.2.2.2.2.1 = x796007 then (bellwetherlaw23_GateGuards.j1 k x2 x10 x11 (bt825.2.2.2.2.2.toList != x796014.toList) x795000 x795001 x795002 x795003 x795004 x795005 x795006 x795007 x795008 x795009 x795010 x796000 x796001 x796002 x796003 x796004 x796005 x796006 x796007 x796008 x796009 x796010 x796011 x796012 x796013 x796014 x796015 x796016 x796017 x796018 x796019 x796020 x796021 x796022 x796023 x807000 x807001 x807002 x807003 x807004 x807005) else (bellwetherlaw23_GateGuards.j1 k x2 x10 x11 true x795000 x795001 x795002 x795003 x795004 x795005 x795006 x795007 x795008 x795009 x795010 x796000 x796001 x796002 x796003 x796004 x796005 x796006 x796007 x796008 x796009 x796010 x796011 x796012 x796013 x796014 x796015 x796016 x796017 x796018 x796019 x796020 x796021 x796022 x796023 x807000 x807001 x807002 x807003 x807004 x807005)) else (bellwetherlaw23_GateGuards.j1 k x2 x10 x11 true x795000 x795001 x795002 x795003 x795004 x795005 x795006 x795007 x795008 x795009 x795010 x796000 x796001 x796002 x796003 x796004 x796005 x796006 x796007 x796008 x796009 x796010 x796011 x796012 x796013 x796014 x796015 x796016 x796017 x796018 x796019 x796020 x796021 x796022 x796023 x807000 x807001 x807002 x807003 x807004 x807005))))))
def bellwetherlaw23_GateGuards.j1 : Nat → Int → ByteArray → Int → Bool → Int → Int → Int → Int → Int → Int → Int → Int → Int → Int → List Int → Int → Int → Int → ByteArray → Int → ByteArray → ByteArray → Int → Int → ByteArray → ByteArray → ByteArray → ByteArray → ByteArray → ByteArray → List (S140) → List ByteArray → List (S142) → Int → Int → Int → Int → Int → Int → ByteArray → Int → ByteArray → Int → Int → ByteArray → Option (Bool)
 | 0, _, _, _, _, _, _, _, _, _, _, _, _, _, _, _, _, _, _, _, _, _, _, _, _, _, _, _, _, _, _, _, _, _, _, _, _, _, _, _, _, _, _, _, _, _ => none
 | k + 1, x2, x10, x11, x76, x795000, x795001, x795002, x795003, x795004, x795005, x795006, x795007, x795008, x795009, x795010, x796000, x796001, x796002, x796003, x796004, x796005, x796006, x796007, x796008, x796009, x796010, x796011, x796012, x796013, x796014, x796015, x796016, x796017, x796018, x796019, x796020, x796021, x796022, x796023, x807000, x807001, x807002, x807003, x807004, x807005 => if x76 = true then (none) else (if x11 = 0 then (if x807003 = 0 then ((bellwetherlaw23_known.f k).bind fun t833 => (some t833)) else (none)) else ((bellwetherref21_Owner.f k x795000 x795001 x795002 x795003 x795004 x795005 x795006 x795007 x795008 x795009 x795010 (wrap64 (x11 - 1))).bind fun t834 => (if t834 = x2 then (if x807003 = x11 then ((bellwetherref23_Has.f x796012 (wrap64 (x11 - 1))).bind fun t835 => (if t835 = true then (bellwetherlaw23_GateGuards.j2 k x2 x10 x11 true x795000 x795001 x795002 x795003 x795004 x795005 x795006 x795007 x795008 x795009 x795010 x796000 x796001 x796002 x796003 x796004 x796005 x796006 x796007 x796008 x796009 x796010 x796011 x796012 x796013 x796014 x796015 x796016 x796017 x796018 x796019 x796020 x796021 x796022 x796023) else ((bellwetherref23_Has.f x10 (wrap64 (x11 - 1))).bind fun t836 => (if t836 = true then (bellwetherlaw23_GateGuards.j2 k x2 x10 x11 ((x10.size : Int) != (x795010.length : Int)) x795000 x795001 x795002 x795003 x795004 x795005 x795006 x795007 x795008 x795009 x795010 x796000 x796001 x796002 x796003 x796004 x796005 x796006 x796007 x796008 x796009 x796010 x796011 x796012 x796013 x796014 x796015 x796016 x796017 x796018 x796019 x796020 x796021 x796022 x796023) else (bellwetherlaw23_GateGuards.j2 k x2 x10 x11 true x795000 x795001 x795002 x795003 x795004 x795005 x795006 x795007 x795008 x795009 x795010 x796000 x796001 x796002 x796003 x796004 x796005 x796006 x796007 x796008 x796009 x796010 x796011 x796012 x796013 x796014 x796015 x796016 x796017 x796018 x796019 x796020 x796021 x796022 x796023))))) else (bellwetherlaw23_GateGuards.j2 k x2 x10 x11 true x795000 x795001 x795002 x795003 x795004 x795005 x795006 x795007 x795008 x795009 x795010 x796000 x796001 x796002 x796003 x796004 x796005 x796006 x796007 x796008 x796009 x796010 x796011 x796012 x796013 x796014 x796015 x796016 x796017 x796018 x796019 x796020 x796021 x796022 x796023)) else (bellwetherlaw23_GateGuards.j2 k x2 x10 x11 true x795000 x795001 x795002 x795003 x795004 x795005 x795006 x795007 x795008 x795009 x795010 x796000 x796001 x796002 x796003 x796004 x796005 x796006 x796007 x796008 x796009 x796010 x796011 x796012 x796013 x796014 x796015 x796016 x796017 x796018 x796019 x796020 x796021 x796022 x796023))))
def bellwetherlaw23_GateGuards.j2 : Nat → Int → ByteArray → Int → Bool → Int → Int → Int → Int → Int → Int → Int → Int → Int → Int → List Int → Int → Int → Int → ByteArray → Int → ByteArray → ByteArray → Int → Int → ByteArray → ByteArray → ByteArray → ByteArray → ByteArray → ByteArray → List (S140) → List ByteArray → List (S142) → Int → Int → Int → Int → Int → Int → Option (Bool)
 | 0, _, _, _, _, _, _, _, _, _, _, _, _, _, _, _, _, _, _, _, _, _, _, _, _, _, _, _, _, _, _, _, _, _, _, _, _, _, _, _ => none
 | k + 1, x2, x10, x11, x118, x795000, x795001, x795002, x795003, x795004, x795005, x795006, x795007, x795008, x795009, x795010, x796000, x796001, x796002, x796003, x796004, x796005, x796006, x796007, x796008, x796009, x796010, x796011, x796012, x796013, x796014, x796015, x796016, x796017, x796018, x796019, x796020, x796021, x796022, x796023 => if x118 = true then (none) else ((gate_Open.f k x795000 x795001 x795002 x795003 x795004 x795005 x795006 x795007 x795008 x795009 x795010 x796000 x796001 x796002 x796003 x796004 x796005 x796006 x796007 x796008 x796009 x796010 x796011 x10 x796013 x796014 x796015 x796016 x796017 x796018 x796019 x796020 x796021 x796022 x796023 x2).bind fun t837 => (if t837 = (wrap64 (x11 - 1)) then (none) else ((bellwetherlaw23_known.f k).bind fun t838 => (some t838))))
end
def bellwetherlaw23_GateGuards.f (k : Nat) (a0_0 a0_1 a0_2 a0_3 a0_4 a0_5 a0_6 a0_7 a0_8 a0_9 : Int) (l0_10 : List Int) (a1_0 a1_1 a1_2 : Int) (a1_3 : ByteArray) (a1_4 : Int) (a1_5 a1_6 : ByteArray) (a1_7 a1_8 : Int) (a1_9 a1_10 a1_11 a1_12 a1_13 a1_14 : ByteArray) (l1_15 : List (S140)) (l1_16 : List ByteArray) (l1_17 : List (S142)) (a1_18 a1_19 a1_20 a1_21 a1_22 a1_23 a2 : Int) (a3_0 : ByteArray) (a3_1 : Int) (a3_2 : ByteArray) (a3_3 a3_4 : Int) (a3_5 : ByteArray) : Option (Bool) := if (a1_12.size : Int) > 100 then ((bellwetherlaw23_known.f k).bind fun t797 => (some t797)) else ((gate_Send.f k a0_0 a0_1 a0_2 a0_3 a0_4 a0_5 a0_6 a0_7 a0_8 a0_9 l0_10 a1_0 a1_1 a1_2 a1_3 a1_4 a1_5 a1_6 a1_7 a1_8 a1_9 a1_10 a1_11 a1_12 a1_13 a1_14 l1_15 l1_16 l1_17 a1_18 a1_19 a1_20 a1_21 a1_22 a1_23 a2 a3_0 a3_1 a3_2 a3_3 a3_4 a3_5).bind fun bt798 => ((gate_Guard.f k a0_0 a0_1 a0_2 a0_3 a0_4 a0_5 a0_6 a0_7 a0_8 a0_9 l0_10 a1_0 a1_1 a1_2 a1_3 a1_4 a1_5 a1_6 a1_7 a1_8 a1_9 a1_10 a1_11 a1_12 a1_13 a1_14 l1_15 l1_16 l1_17 a1_18 a1_19 a1_20 a1_21 a1_22 a1_23 a2 bt798.1 bt798.2.1 bt798.2.2.1 bt798.2.2.2.1 bt798.2.2.2.2.1 bt798.2.2.2.2.2.1).bind fun bt807 => (if (!(bt807.1.toList == bt798.1.toList) || (!(bt807.2.1 == bt798.2.1) || (!(bt807.2.2.1.toList == bt798.2.2.1.toList) || (!(bt807.2.2.2.1 == bt798.2.2.2.1) || (!(bt807.2.2.2.2.1 == bt798.2.2.2.2.1) || (!(bt807.2.2.2.2.2.toList == bt798.2.2.2.2.2.1.toList))))))) = true then (bellwetherlaw23_GateGuards.j0 k a2 bt798.2.2.2.2.2.2.1 bt798.2.2.2.2.2.2.2 true a0_0 a0_1 a0_2 a0_3 a0_4 a0_5 a0_6 a0_7 a0_8 a0_9 l0_10 a1_0 a1_1 a1_2 a1_3 a1_4 a1_5 a1_6 a1_7 a1_8 a1_9 a1_10 a1_11 a1_12 a1_13 a1_14 l1_15 l1_16 l1_17 a1_18 a1_19 a1_20 a1_21 a1_22 a1_23 a3_0 a3_1 a3_2 a3_3 a3_4 a3_5 bt798.1 bt798.2.1 bt798.2.2.1 bt798.2.2.2.1 bt798.2.2.2.2.1 bt798.2.2.2.2.2.1) else ((bellwetherref10_Strip.f bt798.1 bt798.2.1 bt798.2.2.1 bt798.2.2.2.1 bt798.2.2.2.2.1 bt798.2.2.2.2.2.1).bind fun bt813 => ((bellwetherref10_Strip.f a3_0 a3_1 a3_2 a3_3 a3_4 a3_5).bind fun bt819 => (bellwetherlaw23_GateGuards.j0 k a2 bt798.2.2.2.2.2.2.1 bt798.2.2.2.2.2.2.2 (!(bt813.1.toList == bt819.1.toList) || (!(bt813.2.1 == bt819.2.1) || (!(bt813.2.2.1.toList == bt819.2.2.1.toList) || (!(bt813.2.2.2.1 == bt819.2.2.2.1) || (!(bt813.2.2.2.2.1 == bt819.2.2.2.2.1) || (!(bt813.2.2.2.2.2.toList == bt819.2.2.2.2.2.toList))))))) a0_0 a0_1 a0_2 a0_3 a0_4 a0_5 a0_6 a0_7 a0_8 a0_9 l0_10 a1_0 a1_1 a1_2 a1_3 a1_4 a1_5 a1_6 a1_7 a1_8 a1_9 a1_10 a1_11 a1_12 a1_13 a1_14 l1_15 l1_16 l1_17 a1_18 a1_19 a1_20 a1_21 a1_22 a1_23 a3_0 a3_1 a3_2 a3_3 a3_4 a3_5 bt798.1 bt798.2.1 bt798.2.2.1 bt798.2.2.2.1 bt798.2.2.2.2.1 bt798.2.2.2.2.2.1))))))
def bellwetherlaw23_GateGuards.T4 : Bool × List (List Nat × List Nat) := (true, [([], []), ([], []), ([], []), ([], []), ([0, 1, 2, 3], [0, 1, 2, 3]), ([], []), ([4, 5], [4, 5]), ([6, 4], [6]), ([7], [7]), ([8, 7, 7], [7, 8]), ([7], [7]), ([10, 9, 7], [7, 10]), ([9, 11, 7], [7, 9, 11]), ([7, 12], [7, 12])])
def bellwetherlaw23_GateGuards.B4 : List Nat := [0, 0, 0, 0, 15, 0, 63, 127, 255, 511, 255, 2047, 4095, 8191]
theorem bellwetherlaw23_GateGuards.tab4 : rtab .any (opsOf Try.f17 4) = bellwetherlaw23_GateGuards.T4 := by kernel_rfl
theorem bellwetherlaw23_GateGuards.bits4 : waitsOk bellwetherlaw23_GateGuards.T4.2 bellwetherlaw23_GateGuards.B4 = true := by kernel_rfl
set_option maxHeartbeats 8000000 in
set_option maxRecDepth 100000 in
theorem bellwetherlaw23_GateGuards.calls (k : Nat) (a0_0 a0_1 a0_2 a0_3 a0_4 a0_5 a0_6 a0_7 a0_8 a0_9 : Int) (A0_10 : Option Addr) (c0_10 : Nat) (l0_10 : List Int) (a1_0 a1_1 a1_2 : Int) (a1_3 : ByteArray) (a1_4 : Int) (a1_5 a1_6 : ByteArray) (a1_7 a1_8 : Int) (a1_9 a1_10 a1_11 a1_12 a1_13 a1_14 : ByteArray) (A1_15 : Option Addr) (c1_15 : Nat) (l1_15 : List (S140)) (A1_16 : Option Addr) (c1_16 : Nat) (l1_16 : List ByteArray) (A1_17 : Option Addr) (c1_17 : Nat) (l1_17 : List (S142)) (a1_18 a1_19 a1_20 a1_21 a1_22 a1_23 a2 : Int) (a3_0 : ByteArray) (a3_1 : Int) (a3_2 : ByteArray) (a3_3 a3_4 : Int) (a3_5 : ByteArray) (r : Bool) (w : World) (hr0_10 : Kd.C (Kd.int .i64) w A0_10 l0_10.length l0_10) (hc0_10 : l0_10.length ≤ c0_10) (hr1_15 : Kd.C k140 w A1_15 l1_15.length l1_15) (hc1_15 : l1_15.length ≤ c1_15) (hr1_16 : Kd.C Kd.string w A1_16 l1_16.length l1_16) (hc1_16 : l1_16.length ≤ c1_16) (hr1_17 : Kd.C k142 w A1_17 l1_17.length l1_17) (hc1_17 : l1_17.length ≤ c1_17) (h : bellwetherlaw23_GateGuards.f k a0_0 a0_1 a0_2 a0_3 a0_4 a0_5 a0_6 a0_7 a0_8 a0_9 l0_10 a1_0 a1_1 a1_2 a1_3 a1_4 a1_5 a1_6 a1_7 a1_8 a1_9 a1_10 a1_11 a1_12 a1_13 a1_14 l1_15 l1_16 l1_17 a1_18 a1_19 a1_20 a1_21 a1_22 a1_23 a2 a3_0 a3_1 a3_2 a3_3 a3_4 a3_5 = some r) :
  Calls Try.prog 17 #[.agg #[.int .i64 a0_0, .int .i64 a0_1, .int .i64 a0_2, .int .i64 a0_3, .int .i64 a0_4, .int .i64 a0_5, .int .i64 a0_6, .int .i64 a0_7, .int .i64 a0_8, .int .i64 a0_9, .slice A0_10 l0_10.length c0_10], .agg #[.int .i64 a1_0, .int .i64 a1_1, .int .i64 a1_2, .string a1_3, .int .i64 a1_4, .string a1_5, .string a1_6, .int .i64 a1_7, .int .i64 a1_8, .string a1_9, .string a1_10, .string a1_11, .string a1_12, .string a1_13, .string a1_14, .slice A1_15 l1_15.length c1_15, .slice A1_16 l1_16.length c1_16, .slice A1_17 l1_17.length c1_17, .int .i64 a1_18, .int .i64 a1_19, .int .i64 a1_20, .int .i64 a1_21, .int .i64 a1_22, .int .i64 a1_23], .int .i64 a2, .agg #[.string a3_0, .int .i64 a3_1, .string a3_2, .int .i64 a3_3, .int .i64 a3_4, .string a3_5]] w fun e w' => e = .returned (.bool r) ∧ Below w.heap.size w w' := by
 have HR0_10 := Aside0.mk hr0_10
 have HC0_10 := Aside0.mk hc0_10
 clear hr0_10 hc0_10
 have HR1_15 := Aside0.mk hr1_15
 have HC1_15 := Aside0.mk hc1_15
 clear hr1_15 hc1_15
 have HR1_16 := Aside0.mk hr1_16
 have HC1_16 := Aside0.mk hc1_16
 clear hr1_16 hc1_16
 have HR1_17 := Aside0.mk hr1_17
 have HC1_17 := Aside0.mk hc1_17
 clear hr1_17 hc1_17
 have HB := Aside0.mk (Below.refl w.heap.size w)
 have H : (if (a1_12.size : Int) > 100 then ((bellwetherlaw23_known.f k).bind fun t797 => (some t797)) else ((gate_Send.f k a0_0 a0_1 a0_2 a0_3 a0_4 a0_5 a0_6 a0_7 a0_8 a0_9 l0_10 a1_0 a1_1 a1_2 a1_3 a1_4 a1_5 a1_6 a1_7 a1_8 a1_9 a1_10 a1_11 a1_12 a1_13 a1_14 l1_15 l1_16 l1_17 a1_18 a1_19 a1_20 a1_21 a1_22 a1_23 a2 a3_0 a3_1 a3_2 a3_3 a3_4 a3_5).bind fun bt798 => ((gate_Guard.f k a0_0 a0_1 a0_2 a0_3 a0_4 a0_5 a0_6 a0_7 a0_8 a0_9 l0_10 a1_0 a1_1 a1_2 a1_3 a1_4 a1_5 a1_6 a1_7 a1_8 a1_9 a1_10 a1_11 a1_12 a1_13 a1_14 l1_15 l1_16 l1_17 a1_18 a1_19 a1_20 a1_21 a1_22 a1_23 a2 bt798.1 bt798.2.1 bt798.2.2.1 bt798.2.2.2.1 bt798.2.2.2.2.1 bt798.2.2.2.2.2.1).bind fun bt807 => (if (!(bt807.1.toList == bt798.1.toList) || (!(bt807.2.1 == bt798.2.1) || (!(bt807.2.2.1.toList == bt798.2.2.1.toList) || (!(bt807.2.2.2.1 == bt798.2.2.2.1) || (!(bt807.2.2.2.2.1 == bt798.2.2.2.2.1) || (!(bt807.2.2.2.2.2.toList == bt798.2.2.2.2.2.1.toList))))))) = true then (bellwetherlaw23_GateGuards.j0 k a2 bt798.2.2.2.2.2.2.1 bt798.2.2.2.2.2.2.2 true a0_0 a0_1 a0_2 a0_3 a0_4 a0_5 a0_6 a0_7 a0_8 a0_9 l0_10 a1_0 a1_1 a1_2 a1_3 a1_4 a1_5 a1_6 a1_7 a1_8 a1_9 a1_10 a1_11 a1_12 a1_13 a1_14 l1_15 l1_16 l1_17 a1_18 a1_19 a1_20 a1_21 a1_22 a1_23 a3_0 a3_1 a3_2 a3_3 a3_4 a3_5 bt798.1 bt798.2.1 bt798.2.2.1 bt798.2.2.2.1 bt798.2.2.2.2.1 bt798.2.2.2.2.2.1) else ((bellwetherref10_Strip.f bt798.1 bt798.2.1 bt798.2.2.1 bt798.2.2.2.1 bt798.2.2.2.2.1 bt798.2.2.2.2.2.1).bind fun bt813 => ((bellwetherref10_Strip.f a3_0 a3_1 a3_2 a3_3 a3_4 a3_5).bind fun bt819 => (bellwetherlaw23_GateGuards.j0 k a2 bt798.2.2.2.2.2.2.1 bt798.2.2.2.2.2.2.2 (!(bt813.1.toList == bt819.1.toList) || (!(bt813.2.1 == bt819.2.1) || (!(bt813.2.2.1.toList == bt819.2.2.1.toList) || (!(bt813.2.2.2.1 == bt819.2.2.2.1) || (!(bt813.2.2.2.2.1 == bt819.2.2.2.2.1) || (!(bt813.2.2.2.2.2.toList == bt819.2.2.2.2.2.toList))))))) a0_0 a0_1 a0_2 a0_3 a0_4 a0_5 a0_6 a0_7 a0_8 a0_9 l0_10 a1_0 a1_1 a1_2 a1_3 a1_4 a1_5 a1_6 a1_7 a1_8 a1_9 a1_10 a1_11 a1_12 a1_13 a1_14 l1_15 l1_16 l1_17 a1_18 a1_19 a1_20 a1_21 a1_22 a1_23 a3_0 a3_1 a3_2 a3_3 a3_4 a3_5 bt798.1 bt798.2.1 bt798.2.2.1 bt798.2.2.2.1 bt798.2.2.2.2.1 bt798.2.2.2.2.2.1))))))) = some r := h
 clear h
 by_cases c5 : (a1_12.size : Int) > 100
 ·rw [if_pos c5] at H
  have c5b0 : decide (100 < (a1_12.size : Int)) = true := decide_eq_true c5
  have c5b1 : decide (100 < a1_12.size) = true := decide_eq_true (by omega)
  clear c5
  replace H := Option.bind_eq_some_iff.mp H
  obtain ⟨t797, A60, H⟩ := H
  replace H : (some t797) = some r := H
  have A6 := Aside0.mk A60
  clear A60
  obtain rfl := Option.some.inj H
  go_enter Try.func17, Try.ntmps17
  go_wp2_with (first | ((with_reducible refine gate_load (t := 24) (x := .tmp 4) rfl ?_); refine load_row_g (cs := ?_) ?hw 24 (.tmp 4) ?h2 gb794 ?hx 24 (fr := (0, 0)) (d := ?_) ?hg ?h3 ?h4 ?hi ?_; (case hw => first | (with_reducible rfl) | (go_simp; done) | rfl); (case h2 => rfl); (case hx => first | (with_reducible rfl) | (go_simp; done) | rfl); (case hg => (with_reducible repeat (first | refine blk_drewN ?_ _ | refine blk_drew ?_ | refine blk_alloc ?_ _)); with_reducible exact BK794.out); (case h3 => exact Try.underlying24); (case h4 => rfl); (case hi => kernel_rfl)) | ((with_reducible refine gate_load (t := 44) (x := .tmp 5) rfl ?_); refine load_row_g (cs := ?_) ?hw 44 (.tmp 5) ?h2 gb795 ?hx 44 (fr := (0, 0)) (d := ?_) ?hg ?h3 ?h4 ?hi ?_; (case hw => first | (with_reducible rfl) | (go_simp; done) | rfl); (case h2 => rfl); (case hx => first | (with_reducible rfl) | (go_simp; done) | rfl); (case hg => (with_reducible repeat (first | refine blk_drewN ?_ _ | refine blk_drew ?_ | refine blk_alloc ?_ _)); with_reducible exact BK795.out); (case h3 => exact Try.underlying44); (case h4 => rfl); (case hi => kernel_rfl)) | ((with_reducible refine gate_load (t := 76) (x := .tmp 7) rfl ?_); refine load_row_g (cs := ?_) ?hw 76 (.tmp 7) ?h2 gb796 ?hx 76 (fr := (0, 0)) (d := ?_) ?hg ?h3 ?h4 ?hi ?_; (case hw => first | (with_reducible rfl) | (go_simp; done) | rfl); (case h2 => rfl); (case hx => first | (with_reducible rfl) | (go_simp; done) | rfl); (case hg => (with_reducible repeat (first | refine blk_drewN ?_ _ | refine blk_drew ?_ | refine blk_alloc ?_ _)); with_reducible exact BK796.out); (case h3 => exact Try.underlying76); (case h4 => rfl); (case hi => kernel_rfl)) | ((with_reducible refine gate_load (t := 76) (x := .tmp 9) rfl ?_); refine load_row_g (cs := ?_) ?hw 76 (.tmp 9) ?h2 gb806 ?hx 76 (fr := (0, 0)) (d := ?_) ?hg ?h3 ?h4 ?hi ?_; (case hw => first | (with_reducible rfl) | (go_simp; done) | rfl); (case h2 => rfl); (case hx => first | (with_reducible rfl) | (go_simp; done) | rfl); (case hg => (with_reducible repeat (first | refine blk_drewN ?_ _ | refine blk_drew ?_ | refine blk_alloc ?_ _)); with_reducible exact BK806.out); (case h3 => exact Try.underlying76); (case h4 => rfl); (case hi => kernel_rfl)) | ((with_reducible refine gate_load (t := 76) (x := .tmp 12) rfl ?_); refine load_row_g (cs := ?_) ?hw 76 (.tmp 12) ?h2 gb831 ?hx 76 (fr := (0, 0)) (d := ?_) ?hg ?h3 ?h4 ?hi ?_; (case hw => first | (with_reducible rfl) | (go_simp; done) | rfl); (case h2 => rfl); (case hx => first | (with_reducible rfl) | (go_simp; done) | rfl); (case hg => (with_reducible repeat (first | refine blk_drewN ?_ _ | refine blk_drew ?_ | refine blk_alloc ?_ _)); with_reducible exact BK831.out); (case h3 => exact Try.underlying76); (case h4 => rfl); (case hi => kernel_rfl)) | ((with_reducible refine gate_dst (N := 4) rfl ?_); (try (refine gate_guard (by rfl) ?_; dsimp only)); refine box_event ?hg (N := 4) ?hd (cs := #[.int .i64 a0_0, .int .i64 a0_1, .int .i64 a0_2, .int .i64 a0_3, .int .i64 a0_4, .int .i64 a0_5, .int .i64 a0_6, .int .i64 a0_7, .int .i64 a0_8, .int .i64 a0_9, .slice A0_10 l0_10.length c0_10]) (t := 24) ?hr ?_; (case hd => rfl); (case hg => rfl); (case hr => first | (go_simp; done) | (go_simp; rfl)); intro gb794 hg w7 hbox hb; have n0_ := Aside0.mk (below_step HB.out hb); have n1_ := Aside0.mk (hbox); have n2_ := Aside0.mk ((by rw [hg]; exact (below_size HB.out) : w.heap.size ≤ gb794)); have n3_ := Aside0.mk ((by rw [hg]; exact (below_size HB.out) : w.heap.size ≤ gb794)); clear HB; have HB := n0_; have BK794 := n1_; have GW794 := n2_; have GE794 := n3_; clear n0_ n1_ n2_ n3_; clear hb hbox hg) | ((with_reducible refine gate_dst (N := 5) rfl ?_); (try (refine gate_guard (by rfl) ?_; dsimp only)); refine box_event ?hg (N := 5) ?hd (cs := #[.int .i64 a1_0, .int .i64 a1_1, .int .i64 a1_2, .string a1_3, .int .i64 a1_4, .string a1_5, .string a1_6, .int .i64 a1_7, .int .i64 a1_8, .string a1_9, .string a1_10, .string a1_11, .string a1_12, .string a1_13, .string a1_14, .slice A1_15 l1_15.length c1_15, .slice A1_16 l1_16.length c1_16, .slice A1_17 l1_17.length c1_17, .int .i64 a1_18, .int .i64 a1_19, .int .i64 a1_20, .int .i64 a1_21, .int .i64 a1_22, .int .i64 a1_23]) (t := 44) ?hr ?_; (case hd => rfl); (case hg => rfl); (case hr => first | (go_simp; done) | (go_simp; rfl)); intro gb795 hg w8 hbox hb; have n0_ := Aside0.mk (blk_below BK794.out hb); have n1_ := Aside0.mk (below_step HB.out hb); have n2_ := Aside0.mk (hbox); have n3_ := Aside0.mk ((by rw [hg]; exact (below_size HB.out) : w.heap.size ≤ gb795)); have n4_ := Aside0.mk ((by rw [hg]; exact (below_size HB.out) : w.heap.size ≤ gb795)); have n5_ := Aside0.mk ((by rw [hg]; exact Nat.ne_of_lt (blk_lt BK794.out) : gb794 ≠ gb795)); have n6_ := Aside0.mk ((by rw [hg]; exact Nat.ne_of_gt (blk_lt BK794.out) : gb795 ≠ gb794)); clear BK794; clear HB; have BK794 := n0_; have HB := n1_; have BK795 := n2_; have GW795 := n3_; have GE795 := n4_; have NB794_795 := n5_; have NB795_794 := n6_; clear n0_ n1_ n2_ n3_ n4_ n5_ n6_; clear hb hbox hg) | ((with_reducible refine gate_dst (N := 7) rfl ?_); (try (refine gate_guard (by rfl) ?_; dsimp only)); refine box_event ?hg (N := 7) ?hd (cs := #[.string a3_0, .int .i64 a3_1, .string a3_2, .int .i64 a3_3, .int .i64 a3_4, .string a3_5]) (t := 76) ?hr ?_; (case hd => rfl); (case hg => rfl); (case hr => first | (go_simp; done) | (go_simp; rfl)); intro gb796 hg w9 hbox hb; have n0_ := Aside0.mk (blk_below BK794.out hb); have n1_ := Aside0.mk (blk_below BK795.out hb); have n2_ := Aside0.mk (below_step HB.out hb); have n3_ := Aside0.mk (hbox); have n4_ := Aside0.mk ((by rw [hg]; exact (below_size HB.out) : w.heap.size ≤ gb796)); have n5_ := Aside0.mk ((by rw [hg]; exact (below_size HB.out) : w.heap.size ≤ gb796)); have n6_ := Aside0.mk ((by rw [hg]; exact Nat.ne_of_lt (blk_lt BK794.out) : gb794 ≠ gb796)); have n7_ := Aside0.mk ((by rw [hg]; exact Nat.ne_of_gt (blk_lt BK794.out) : gb796 ≠ gb794)); have n8_ := Aside0.mk ((by rw [hg]; exact Nat.ne_of_lt (blk_lt BK795.out) : gb795 ≠ gb796)); have n9_ := Aside0.mk ((by rw [hg]; exact Nat.ne_of_gt (blk_lt BK795.out) : gb796 ≠ gb795)); clear BK794; clear BK795; clear HB; have BK794 := n0_; have BK795 := n1_; have HB := n2_; have BK796 := n3_; have GW796 := n4_; have GE796 := n5_; have NB794_796 := n6_; have NB796_794 := n7_; have NB795_796 := n8_; have NB796_795 := n9_; clear n0_ n1_ n2_ n3_ n4_ n5_ n6_ n7_ n8_ n9_; clear hb hbox hg; have hnb10 := NB795_794.out; have hnc10 := NB794_795.out; have hnb11 := NB795_796.out; have hnc11 := NB796_795.out; have hall1_ := cells_24 BK795.out; have hall2_ := frozen_24 BK795.out) | ((with_reducible refine gate_callee (f := 46) rfl ?_); refine goesL_ (some 17) rfl rfl Try.func46 (by kernel_rfl) rfl #[] rfl (by (try simp only [List.map_toArray, List.map_cons, List.map_nil]); first | done | rfl | (simp only [List.length_drop, List.length_take]; rfl)) ?_; (with_reducible refine (bellwetherlaw23_known.calls k  t797 _ A6.out).mono ?_); rintro e w13 ⟨rfl, hb⟩; refine ⟨_, rfl, ?_⟩; have n0_ := Aside0.mk (blk_below BK794.out hb); have n1_ := Aside0.mk (blk_below BK795.out hb); have n2_ := Aside0.mk (blk_below BK796.out hb); have n3_ := Aside0.mk (below_step HB.out hb); clear BK794; clear BK795; clear BK796; clear HB; have BK794 := n0_; have BK795 := n1_; have BK796 := n2_; have HB := n3_; clear n0_ n1_ n2_ n3_; (try clear hb); (try clear hb2); (try clear hk); (try clear hi)))
  go_ret
  exact ⟨by first | rfl | (simp [errW_none, errW_some] <;> rfl) | (simp [*, errW_none, errW_some] <;> rfl), by repeat (first | (with_reducible first | exact HB.out | apply below_alloc | apply pw_below_drewN | apply below_drew1 | refine below_set ?_ GE794.out | refine below_set ?_ GE795.out | refine below_set ?_ GE796.out) | exact HB.out)⟩
 ·rw [if_neg c5] at H
  have c5b0 : decide (100 < (a1_12.size : Int)) = false := decide_eq_false c5
  have c5b1 : decide (100 < a1_12.size) = false := decide_eq_false (by omega)
  clear c5
  replace H := Option.bind_eq_some_iff.mp H
  obtain ⟨⟨t798, t799, t800, t801, t802, t803, t804, t805⟩, A140, H⟩ := H
  replace H : ((gate_Guard.f k a0_0 a0_1 a0_2 a0_3 a0_4 a0_5 a0_6 a0_7 a0_8 a0_9 l0_10 a1_0 a1_1 a1_2 a1_3 a1_4 a1_5 a1_6 a1_7 a1_8 a1_9 a1_10 a1_11 a1_12 a1_13 a1_14 l1_15 l1_16 l1_17 a1_18 a1_19 a1_20 a1_21 a1_22 a1_23 a2 t798 t799 t800 t801 t802 t803).bind fun bt807 => (if (!(bt807.1.toList == t798.toList) || (!(bt807.2.1 == t799) || (!(bt807.2.2.1.toList == t800.toList) || (!(bt807.2.2.2.1 == t801) || (!(bt807.2.2.2.2.1 == t802) || (!(bt807.2.2.2.2.2.toList == t803.toList))))))) = true then (bellwetherlaw23_GateGuards.j0 k a2 t804 t805 true a0_0 a0_1 a0_2 a0_3 a0_4 a0_5 a0_6 a0_7 a0_8 a0_9 l0_10 a1_0 a1_1 a1_2 a1_3 a1_4 a1_5 a1_6 a1_7 a1_8 a1_9 a1_10 a1_11 a1_12 a1_13 a1_14 l1_15 l1_16 l1_17 a1_18 a1_19 a1_20 a1_21 a1_22 a1_23 a3_0 a3_1 a3_2 a3_3 a3_4 a3_5 t798 t799 t800 t801 t802 t803) else ((bellwetherref10_Strip.f t798 t799 t800 t801 t802 t803).bind fun bt813 => ((bellwetherref10_Strip.f a3_0 a3_1 a3_2 a3_3 a3_4 a3_5).bind fun bt819 => (bellwetherlaw23_GateGuards.j0 k a2 t804 t805 (!(bt813.1.toList == bt819.1.toList) || (!(bt813.2.1 == bt819.2.1) || (!(bt813.2.2.1.toList == bt819.2.2.1.toList) || (!(bt813.2.2.2.1 == bt819.2.2.2.1) || (!(bt813.2.2.2.2.1 == bt819.2.2.2.2.1) || (!(bt813.2.2.2.2.2.toList == bt819.2.2.2.2.2.toList))))))) a0_0 a0_1 a0_2 a0_3 a0_4 a0_5 a0_6 a0_7 a0_8 a0_9 l0_10 a1_0 a1_1 a1_2 a1_3 a1_4 a1_5 a1_6 a1_7 a1_8 a1_9 a1_10 a1_11 a1_12 a1_13 a1_14 l1_15 l1_16 l1_17 a1_18 a1_19 a1_20 a1_21 a1_22 a1_23 a3_0 a3_1 a3_2 a3_3 a3_4 a3_5 t798 t799 t800 t801 t802 t803))))) = some r := H
  have A14 := Aside0.mk A140
  clear A140
  have HC15 := Aside0.mk H
  clear H
  go_enter Try.func17, Try.ntmps17
  go_upto_region 4 with (first | ((with_reducible refine gate_load (t := 24) (x := .tmp 4) rfl ?_); refine load_row_g (cs := ?_) ?hw 24 (.tmp 4) ?h2 gb794 ?hx 24 (fr := (0, 0)) (d := ?_) ?hg ?h3 ?h4 ?hi ?_; (case hw => first | (with_reducible rfl) | (go_simp; done) | rfl); (case h2 => rfl); (case hx => first | (with_reducible rfl) | (go_simp; done) | rfl); (case hg => (with_reducible repeat (first | refine blk_drewN ?_ _ | refine blk_drew ?_ | refine blk_alloc ?_ _)); with_reducible exact BK794.out); (case h3 => exact Try.underlying24); (case h4 => rfl); (case hi => kernel_rfl)) | ((with_reducible refine gate_load (t := 44) (x := .tmp 5) rfl ?_); refine load_row_g (cs := ?_) ?hw 44 (.tmp 5) ?h2 gb795 ?hx 44 (fr := (0, 0)) (d := ?_) ?hg ?h3 ?h4 ?hi ?_; (case hw => first | (with_reducible rfl) | (go_simp; done) | rfl); (case h2 => rfl); (case hx => first | (with_reducible rfl) | (go_simp; done) | rfl); (case hg => (with_reducible repeat (first | refine blk_drewN ?_ _ | refine blk_drew ?_ | refine blk_alloc ?_ _)); with_reducible exact BK795.out); (case h3 => exact Try.underlying44); (case h4 => rfl); (case hi => kernel_rfl)) | ((with_reducible refine gate_load (t := 76) (x := .tmp 7) rfl ?_); refine load_row_g (cs := ?_) ?hw 76 (.tmp 7) ?h2 gb796 ?hx 76 (fr := (0, 0)) (d := ?_) ?hg ?h3 ?h4 ?hi ?_; (case hw => first | (with_reducible rfl) | (go_simp; done) | rfl); (case h2 => rfl); (case hx => first | (with_reducible rfl) | (go_simp; done) | rfl); (case hg => (with_reducible repeat (first | refine blk_drewN ?_ _ | refine blk_drew ?_ | refine blk_alloc ?_ _)); with_reducible exact BK796.out); (case h3 => exact Try.underlying76); (case h4 => rfl); (case hi => kernel_rfl)) | ((with_reducible refine gate_load (t := 76) (x := .tmp 9) rfl ?_); refine load_row_g (cs := ?_) ?hw 76 (.tmp 9) ?h2 gb806 ?hx 76 (fr := (0, 0)) (d := ?_) ?hg ?h3 ?h4 ?hi ?_; (case hw => first | (with_reducible rfl) | (go_simp; done) | rfl); (case h2 => rfl); (case hx => first | (with_reducible rfl) | (go_simp; done) | rfl); (case hg => (with_reducible repeat (first | refine blk_drewN ?_ _ | refine blk_drew ?_ | refine blk_alloc ?_ _)); with_reducible exact BK806.out); (case h3 => exact Try.underlying76); (case h4 => rfl); (case hi => kernel_rfl)) | ((with_reducible refine gate_load (t := 76) (x := .tmp 12) rfl ?_); refine load_row_g (cs := ?_) ?hw 76 (.tmp 12) ?h2 gb831 ?hx 76 (fr := (0, 0)) (d := ?_) ?hg ?h3 ?h4 ?hi ?_; (case hw => first | (with_reducible rfl) | (go_simp; done) | rfl); (case h2 => rfl); (case hx => first | (with_reducible rfl) | (go_simp; done) | rfl); (case hg => (with_reducible repeat (first | refine blk_drewN ?_ _ | refine blk_drew ?_ | refine blk_alloc ?_ _)); with_reducible exact BK831.out); (case h3 => exact Try.underlying76); (case h4 => rfl); (case hi => kernel_rfl)) | ((with_reducible refine gate_dst (N := 4) rfl ?_); (try (refine gate_guard (by rfl) ?_; dsimp only)); refine box_event ?hg (N := 4) ?hd (cs := #[.int .i64 a0_0, .int .i64 a0_1, .int .i64 a0_2, .int .i64 a0_3, .int .i64 a0_4, .int .i64 a0_5, .int .i64 a0_6, .int .i64 a0_7, .int .i64 a0_8, .int .i64 a0_9, .slice A0_10 l0_10.length c0_10]) (t := 24) ?hr ?_; (case hd => rfl); (case hg => rfl); (case hr => first | (go_simp; done) | (go_simp; rfl)); intro gb794 hg w16 hbox hb; have n0_ := Aside0.mk (below_step HB.out hb); have n1_ := Aside0.mk (hbox); have n2_ := Aside0.mk ((by rw [hg]; exact (below_size HB.out) : w.heap.size ≤ gb794)); have n3_ := Aside0.mk ((by rw [hg]; exact (below_size HB.out) : w.heap.size ≤ gb794)); clear HB; have HB := n0_; have BK794 := n1_; have GW794 := n2_; have GE794 := n3_; clear n0_ n1_ n2_ n3_; clear hb hbox hg) | ((with_reducible refine gate_dst (N := 5) rfl ?_); (try (refine gate_guard (by rfl) ?_; dsimp only)); refine box_event ?hg (N := 5) ?hd (cs := #[.int .i64 a1_0, .int .i64 a1_1, .int .i64 a1_2, .string a1_3, .int .i64 a1_4, .string a1_5, .string a1_6, .int .i64 a1_7, .int .i64 a1_8, .string a1_9, .string a1_10, .string a1_11, .string a1_12, .string a1_13, .string a1_14, .slice A1_15 l1_15.length c1_15, .slice A1_16 l1_16.length c1_16, .slice A1_17 l1_17.length c1_17, .int .i64 a1_18, .int .i64 a1_19, .int .i64 a1_20, .int .i64 a1_21, .int .i64 a1_22, .int .i64 a1_23]) (t := 44) ?hr ?_; (case hd => rfl); (case hg => rfl); (case hr => first | (go_simp; done) | (go_simp; rfl)); intro gb795 hg w17 hbox hb; have n0_ := Aside0.mk (blk_below BK794.out hb); have n1_ := Aside0.mk (below_step HB.out hb); have n2_ := Aside0.mk (hbox); have n3_ := Aside0.mk ((by rw [hg]; exact (below_size HB.out) : w.heap.size ≤ gb795)); have n4_ := Aside0.mk ((by rw [hg]; exact (below_size HB.out) : w.heap.size ≤ gb795)); have n5_ := Aside0.mk ((by rw [hg]; exact Nat.ne_of_lt (blk_lt BK794.out) : gb794 ≠ gb795)); have n6_ := Aside0.mk ((by rw [hg]; exact Nat.ne_of_gt (blk_lt BK794.out) : gb795 ≠ gb794)); clear BK794; clear HB; have BK794 := n0_; have HB := n1_; have BK795 := n2_; have GW795 := n3_; have GE795 := n4_; have NB794_795 := n5_; have NB795_794 := n6_; clear n0_ n1_ n2_ n3_ n4_ n5_ n6_; clear hb hbox hg) | ((with_reducible refine gate_dst (N := 7) rfl ?_); (try (refine gate_guard (by rfl) ?_; dsimp only)); refine box_event ?hg (N := 7) ?hd (cs := #[.string a3_0, .int .i64 a3_1, .string a3_2, .int .i64 a3_3, .int .i64 a3_4, .string a3_5]) (t := 76) ?hr ?_; (case hd => rfl); (case hg => rfl); (case hr => first | (go_simp; done) | (go_simp; rfl)); intro gb796 hg w18 hbox hb; have n0_ := Aside0.mk (blk_below BK794.out hb); have n1_ := Aside0.mk (blk_below BK795.out hb); have n2_ := Aside0.mk (below_step HB.out hb); have n3_ := Aside0.mk (hbox); have n4_ := Aside0.mk ((by rw [hg]; exact (below_size HB.out) : w.heap.size ≤ gb796)); have n5_ := Aside0.mk ((by rw [hg]; exact (below_size HB.out) : w.heap.size ≤ gb796)); have n6_ := Aside0.mk ((by rw [hg]; exact Nat.ne_of_lt (blk_lt BK794.out) : gb794 ≠ gb796)); have n7_ := Aside0.mk ((by rw [hg]; exact Nat.ne_of_gt (blk_lt BK794.out) : gb796 ≠ gb794)); have n8_ := Aside0.mk ((by rw [hg]; exact Nat.ne_of_lt (blk_lt BK795.out) : gb795 ≠ gb796)); have n9_ := Aside0.mk ((by rw [hg]; exact Nat.ne_of_gt (blk_lt BK795.out) : gb796 ≠ gb795)); clear BK794; clear BK795; clear HB; have BK794 := n0_; have BK795 := n1_; have HB := n2_; have BK796 := n3_; have GW796 := n4_; have GE796 := n5_; have NB794_796 := n6_; have NB796_794 := n7_; have NB795_796 := n8_; have NB796_795 := n9_; clear n0_ n1_ n2_ n3_ n4_ n5_ n6_ n7_ n8_ n9_; clear hb hbox hg; have hnb19 := NB795_794.out; have hnc19 := NB794_795.out; have hnb20 := NB795_796.out; have hnc20 := NB796_795.out; have hall3_ := cells_24 BK795.out; have hall4_ := frozen_24 BK795.out; have hnb22 := NB794_796.out; have hnc22 := NB796_794.out; have hall5_ := cells_11 BK794.out; have hall6_ := frozen_11 BK794.out; have hall7_ := cells_6 BK796.out; have hall8_ := frozen_6 BK796.out) | ((with_reducible refine gate_callee (f := 66) rfl ?_); refine goesL_ (some 23) rfl rfl Try.func66 (by kernel_rfl) rfl #[.agg #[.int .i64 a0_0, .int .i64 a0_1, .int .i64 a0_2, .int .i64 a0_3, .int .i64 a0_4, .int .i64 a0_5, .int .i64 a0_6, .int .i64 a0_7, .int .i64 a0_8, .int .i64 a0_9, .slice A0_10 l0_10.length c0_10], .agg #[.int .i64 a1_0, .int .i64 a1_1, .int .i64 a1_2, .string a1_3, .int .i64 a1_4, .string a1_5, .string a1_6, .int .i64 a1_7, .int .i64 a1_8, .string a1_9, .string a1_10, .string a1_11, .string a1_12, .string a1_13, .string a1_14, .slice A1_15 l1_15.length c1_15, .slice A1_16 l1_16.length c1_16, .slice A1_17 l1_17.length c1_17, .int .i64 a1_18, .int .i64 a1_19, .int .i64 a1_20, .int .i64 a1_21, .int .i64 a1_22, .int .i64 a1_23], .int .i64 a2, .agg #[.string a3_0, .int .i64 a3_1, .string a3_2, .int .i64 a3_3, .int .i64 a3_4, .string a3_5]] rfl (by (try simp only [List.map_toArray, List.map_cons, List.map_nil]); first | done | rfl | (simp only [List.length_drop, List.length_take]; rfl)) ?_; (with_reducible refine (gate_Send.calls k a0_0 a0_1 a0_2 a0_3 a0_4 a0_5 a0_6 a0_7 a0_8 a0_9 _ _ l0_10 a1_0 a1_1 a1_2 a1_3 a1_4 a1_5 a1_6 a1_7 a1_8 a1_9 a1_10 a1_11 a1_12 a1_13 a1_14 _ _ l1_15 _ _ l1_16 _ _ l1_17 a1_18 a1_19 a1_20 a1_21 a1_22 a1_23 a2 a3_0 a3_1 a3_2 a3_3 a3_4 a3_5 t798 t799 t800 t801 t802 t803 t804 t805 _ ?side1 ?side2 ?side3 ?side4 ?side5 ?side6 ?side7 ?side8 A14.out).mono ?_); (case side1 => exact (Kd.C_below HR0_10.out HB.out)); (case side2 => exact HC0_10.out); (case side3 => exact (Kd.C_below HR1_15.out HB.out)); (case side4 => exact HC1_15.out); (case side5 => exact (Kd.C_below HR1_16.out HB.out)); (case side6 => exact HC1_16.out); (case side7 => exact (Kd.C_below HR1_17.out HB.out)); (case side8 => exact HC1_17.out); rintro e w25 ⟨rfl, hb⟩; refine ⟨_, rfl, ?_⟩; have n0_ := Aside0.mk (blk_below BK794.out hb); have n1_ := Aside0.mk (blk_below BK795.out hb); have n2_ := Aside0.mk (blk_below BK796.out hb); have n3_ := Aside0.mk (below_step HB.out hb); clear BK794; clear BK795; clear BK796; clear HB; have BK794 := n0_; have BK795 := n1_; have BK796 := n2_; have HB := n3_; clear n0_ n1_ n2_ n3_; (try clear hb); (try clear hb2); (try clear hk); (try clear hi)) | ((with_reducible refine gate_dst (N := 9) rfl ?_); (try (refine gate_guard (by rfl) ?_; dsimp only)); refine box_event ?hg (N := 9) ?hd (cs := #[.string (⟨#[]⟩ : ByteArray), .int .i64 0, .string (⟨#[]⟩ : ByteArray), .int .i64 0, .int .i64 0, .string (⟨#[]⟩ : ByteArray)]) (t := 76) ?hr ?_; (case hd => rfl); (case hg => rfl); (case hr => first | (go_simp; done) | (go_simp; rfl)); intro gb806 hg w26 hbox hb; have n0_ := Aside0.mk (blk_below BK794.out hb); have n1_ := Aside0.mk (blk_below BK795.out hb); have n2_ := Aside0.mk (blk_below BK796.out hb); have n3_ := Aside0.mk (below_step HB.out hb); have n4_ := Aside0.mk (hbox); have n5_ := Aside0.mk ((by rw [hg]; exact (below_size HB.out) : w.heap.size ≤ gb806)); have n6_ := Aside0.mk ((by rw [hg]; exact (below_size HB.out) : w.heap.size ≤ gb806)); have n7_ := Aside0.mk ((by rw [hg]; exact Nat.ne_of_lt (blk_lt BK794.out) : gb794 ≠ gb806)); have n8_ := Aside0.mk ((by rw [hg]; exact Nat.ne_of_gt (blk_lt BK794.out) : gb806 ≠ gb794)); have n9_ := Aside0.mk ((by rw [hg]; exact Nat.ne_of_lt (blk_lt BK795.out) : gb795 ≠ gb806)); have n10_ := Aside0.mk ((by rw [hg]; exact Nat.ne_of_gt (blk_lt BK795.out) : gb806 ≠ gb795)); have n11_ := Aside0.mk ((by rw [hg]; exact Nat.ne_of_lt (blk_lt BK796.out) : gb796 ≠ gb806)); have n12_ := Aside0.mk ((by rw [hg]; exact Nat.ne_of_gt (blk_lt BK796.out) : gb806 ≠ gb796)); clear BK794; clear BK795; clear BK796; clear HB; have BK794 := n0_; have BK795 := n1_; have BK796 := n2_; have HB := n3_; have BK806 := n4_; have GW806 := n5_; have GE806 := n6_; have NB794_806 := n7_; have NB806_794 := n8_; have NB795_806 := n9_; have NB806_795 := n10_; have NB796_806 := n11_; have NB806_796 := n12_; clear n0_ n1_ n2_ n3_ n4_ n5_ n6_ n7_ n8_ n9_ n10_ n11_ n12_; clear hb hbox hg) | ((with_reducible refine gate_store (t := 76) (p := 9) rfl ?_); refine row_store_event (t := 76) (p := 9) (v := ?vo_w27) ?hgd ?ho ?hn gb806 #[.string t798, .int .i64 t799, .string t800, .int .i64 t801, .int .i64 t802, .string t803] ?hx ?hy 76 #[.string (⟨#[]⟩ : ByteArray), .int .i64 0, .string (⟨#[]⟩ : ByteArray), .int .i64 0, .int .i64 0, .string (⟨#[]⟩ : ByteArray)] ?hg ?hi ?hold ?h1 ?_; (case hgd => rfl); (case ho => rfl); (case hn => rfl); (case hx => rfl); (case hy => rfl); (case hg => exact (by (with_reducible repeat (first | refine blk_drewN ?_ _ | refine blk_drew ?_ | refine blk_alloc ?_ _)); exact BK806.out)); (case hi => kernel_rfl); (case hold => rfl); (case h1 => (first | kernel_rfl | simp [Value.oneCell'])); intro w27 hw; have n0_ : Aside0 (w27.heap[gb794]? = some (.cells #[.int .i64 a0_0, .int .i64 a0_1, .int .i64 a0_2, .int .i64 a0_3, .int .i64 a0_4, .int .i64 a0_5, .int .i64 a0_6, .int .i64 a0_7, .int .i64 a0_8, .int .i64 a0_9, .slice A0_10 l0_10.length c0_10] 24 (0, 0))) := ⟨(by rw [hw]; exact (by (with_reducible repeat (first | refine blk_drewN ?_ _ | refine blk_drew ?_ | refine blk_alloc ?_ _)); refine blk_farc ?_ NB794_806.out; (with_reducible repeat (first | refine blk_drewN ?_ _ | refine blk_drew ?_ | refine blk_alloc ?_ _)); exact BK794.out))⟩; have n1_ : Aside0 (w27.heap[gb795]? = some (.cells #[.int .i64 a1_0, .int .i64 a1_1, .int .i64 a1_2, .string a1_3, .int .i64 a1_4, .string a1_5, .string a1_6, .int .i64 a1_7, .int .i64 a1_8, .string a1_9, .string a1_10, .string a1_11, .string a1_12, .string a1_13, .string a1_14, .slice A1_15 l1_15.length c1_15, .slice A1_16 l1_16.length c1_16, .slice A1_17 l1_17.length c1_17, .int .i64 a1_18, .int .i64 a1_19, .int .i64 a1_20, .int .i64 a1_21, .int .i64 a1_22, .int .i64 a1_23] 44 (0, 0))) := ⟨(by rw [hw]; exact (by (with_reducible repeat (first | refine blk_drewN ?_ _ | refine blk_drew ?_ | refine blk_alloc ?_ _)); refine blk_farc ?_ NB795_806.out; (with_reducible repeat (first | refine blk_drewN ?_ _ | refine blk_drew ?_ | refine blk_alloc ?_ _)); exact BK795.out))⟩; have n2_ : Aside0 (w27.heap[gb796]? = some (.cells #[.string a3_0, .int .i64 a3_1, .string a3_2, .int .i64 a3_3, .int .i64 a3_4, .string a3_5] 76 (0, 0))) := ⟨(by rw [hw]; exact (by (with_reducible repeat (first | refine blk_drewN ?_ _ | refine blk_drew ?_ | refine blk_alloc ?_ _)); refine blk_farc ?_ NB796_806.out; (with_reducible repeat (first | refine blk_drewN ?_ _ | refine blk_drew ?_ | refine blk_alloc ?_ _)); exact BK796.out))⟩; have n3_ : Aside0 (w27.heap[gb806]? = some (.cells #[.string t798, .int .i64 t799, .string t800, .int .i64 t801, .int .i64 t802, .string t803] 76 (0, 0))) := ⟨(by rw [hw]; exact (by (with_reducible repeat (first | refine blk_drewN ?_ _ | refine blk_drew ?_ | refine blk_alloc ?_ _)); refine setRow_heap _ _ #[.string (⟨#[]⟩ : ByteArray), .int .i64 0, .string (⟨#[]⟩ : ByteArray), .int .i64 0, .int .i64 0, .string (⟨#[]⟩ : ByteArray)] _ 76 (0, 0) ?_; (with_reducible repeat (first | refine blk_drewN ?_ _ | refine blk_drew ?_ | refine blk_alloc ?_ _)); exact BK806.out))⟩; have n4_ : Aside0 (Below w.heap.size w w27) := ⟨(by rw [hw]; exact (by repeat (first | (with_reducible first | exact HB.out | refine below_setc ?_ GE806.out | apply below_alloc | apply pw_below_drewN | apply below_drew1 | refine below_set ?_ GE794.out | refine below_set ?_ GE795.out | refine below_set ?_ GE796.out | refine below_set ?_ GE806.out) | exact HB.out)))⟩; clear hw; clear BK794; clear BK795; clear BK796; clear BK806; clear HB; have BK794 := n0_; have BK795 := n1_; have BK796 := n2_; have BK806 := n3_; have HB := n4_; clear n0_ n1_ n2_ n3_ n4_))
  (try simp only [Act.put, List.setIfInBounds_toArray, List.set_cons_zero, List.set_cons_succ])
  go_cut [40] (fun v40 wc => ∃ (kq : Nat) (x40_14 : Bool), v40 = .bool x40_14 ∧ Aside0 (bellwetherlaw23_GateGuards.j0 kq a2 t804 t805 x40_14 a0_0 a0_1 a0_2 a0_3 a0_4 a0_5 a0_6 a0_7 a0_8 a0_9 l0_10 a1_0 a1_1 a1_2 a1_3 a1_4 a1_5 a1_6 a1_7 a1_8 a1_9 a1_10 a1_11 a1_12 a1_13 a1_14 l1_15 l1_16 l1_17 a1_18 a1_19 a1_20 a1_21 a1_22 a1_23 a3_0 a3_1 a3_2 a3_3 a3_4 a3_5 t798 t799 t800 t801 t802 t803 = some r) ∧ Aside0 (kq ≤ k) ∧ Aside0 (wc.heap[gb794]? = some (.cells #[.int .i64 a0_0, .int .i64 a0_1, .int .i64 a0_2, .int .i64 a0_3, .int .i64 a0_4, .int .i64 a0_5, .int .i64 a0_6, .int .i64 a0_7, .int .i64 a0_8, .int .i64 a0_9, (.slice A0_10 l0_10.length c0_10)] 24 (0, 0))) ∧ Aside0 (wc.heap[gb795]? = some (.cells #[.int .i64 a1_0, .int .i64 a1_1, .int .i64 a1_2, .string a1_3, .int .i64 a1_4, .string a1_5, .string a1_6, .int .i64 a1_7, .int .i64 a1_8, .string a1_9, .string a1_10, .string a1_11, .string a1_12, .string a1_13, .string a1_14, (.slice A1_15 l1_15.length c1_15), (.slice A1_16 l1_16.length c1_16), (.slice A1_17 l1_17.length c1_17), .int .i64 a1_18, .int .i64 a1_19, .int .i64 a1_20, .int .i64 a1_21, .int .i64 a1_22, .int .i64 a1_23] 44 (0, 0))) ∧ Aside0 (wc.heap[gb796]? = some (.cells #[.string a3_0, .int .i64 a3_1, .string a3_2, .int .i64 a3_3, .int .i64 a3_4, .string a3_5] 76 (0, 0))) ∧ Aside0 (wc.heap[gb806]? = some (.cells #[.string t798, .int .i64 t799, .string t800, .int .i64 t801, .int .i64 t802, .string t803] 76 (0, 0))) ∧ Aside0 (Below w.heap.size w wc))
  case first =>
   have H := HC15.out
   clear HC15
   replace H := Option.bind_eq_some_iff.mp H
   obtain ⟨⟨t807, t808, t809, t810, t811, t812⟩, A280, H⟩ := H
   replace H : (if (!(t807.toList == t798.toList) || (!(t808 == t799) || (!(t809.toList == t800.toList) || (!(t810 == t801) || (!(t811 == t802) || (!(t812.toList == t803.toList))))))) = true then (bellwetherlaw23_GateGuards.j0 k a2 t804 t805 true a0_0 a0_1 a0_2 a0_3 a0_4 a0_5 a0_6 a0_7 a0_8 a0_9 l0_10 a1_0 a1_1 a1_2 a1_3 a1_4 a1_5 a1_6 a1_7 a1_8 a1_9 a1_10 a1_11 a1_12 a1_13 a1_14 l1_15 l1_16 l1_17 a1_18 a1_19 a1_20 a1_21 a1_22 a1_23 a3_0 a3_1 a3_2 a3_3 a3_4 a3_5 t798 t799 t800 t801 t802 t803) else ((bellwetherref10_Strip.f t798 t799 t800 t801 t802 t803).bind fun bt813 => ((bellwetherref10_Strip.f a3_0 a3_1 a3_2 a3_3 a3_4 a3_5).bind fun bt819 => (bellwetherlaw23_GateGuards.j0 k a2 t804 t805 (!(bt813.1.toList == bt819.1.toList) || (!(bt813.2.1 == bt819.2.1) || (!(bt813.2.2.1.toList == bt819.2.2.1.toList) || (!(bt813.2.2.2.1 == bt819.2.2.2.1) || (!(bt813.2.2.2.2.1 == bt819.2.2.2.2.1) || (!(bt813.2.2.2.2.2.toList == bt819.2.2.2.2.2.toList))))))) a0_0 a0_1 a0_2 a0_3 a0_4 a0_5 a0_6 a0_7 a0_8 a0_9 l0_10 a1_0 a1_1 a1_2 a1_3 a1_4 a1_5 a1_6 a1_7 a1_8 a1_9 a1_10 a1_11 a1_12 a1_13 a1_14 l1_15 l1_16 l1_17 a1_18 a1_19 a1_20 a1_21 a1_22 a1_23 a3_0 a3_1 a3_2 a3_3 a3_4 a3_5 t798 t799 t800 t801 t802 t803)))) = some r := H
   have A28 := Aside0.mk A280
   clear A280
   by_cases c29 : (!(t807.toList == t798.toList) || (!(t808 == t799) || (!(t809.toList == t800.toList) || (!(t810 == t801) || (!(t811 == t802) || (!(t812.toList == t803.toList))))))) = true
   ·rw [if_pos c29] at H
    have c29b0 : (!(t807.toList == t798.toList) || (!(t808 == t799) || (!(t809.toList == t800.toList) || (!(t810 == t801) || (!(t811 == t802) || (!(t812.toList == t803.toList))))))) = true := c29
    clear c29
    (first | rw [c29b0] | (simp only [i64_w, i32_w]; rw [c29b0]) | skip)
    have H' := Aside0.mk H
    clear H
    try go_wp2
    have n0_ := Aside0.mk (blk_drew BK794.out)
    have n1_ := Aside0.mk (blk_drew BK795.out)
    have n2_ := Aside0.mk (blk_drew BK796.out)
    have n3_ := Aside0.mk (blk_drew BK806.out)
    have n4_ := Aside0.mk (below_drew1 HB.out)
    clear BK794
    clear BK795
    clear BK796
    clear BK806
    clear HB
    have BK794 := n0_
    have BK795 := n1_
    have BK796 := n2_
    have BK806 := n3_
    have HB := n4_
    clear n0_ n1_ n2_ n3_ n4_
    refine start_ (n := 14) (S := fun w' => w'.cell? ⟨gb794, 0, none⟩ = some (.int .i64 a0_0) ∧ w'.cell? ⟨gb794, 1, none⟩ = some (.int .i64 a0_1) ∧ w'.cell? ⟨gb794, 2, none⟩ = some (.int .i64 a0_2) ∧ w'.cell? ⟨gb794, 3, none⟩ = some (.int .i64 a0_3) ∧ w'.cell? ⟨gb794, 4, none⟩ = some (.int .i64 a0_4) ∧ w'.cell? ⟨gb794, 5, none⟩ = some (.int .i64 a0_5) ∧ w'.cell? ⟨gb794, 6, none⟩ = some (.int .i64 a0_6) ∧ w'.cell? ⟨gb794, 7, none⟩ = some (.int .i64 a0_7) ∧ w'.cell? ⟨gb794, 8, none⟩ = some (.int .i64 a0_8) ∧ w'.cell? ⟨gb794, 9, none⟩ = some (.int .i64 a0_9) ∧ w'.cell? ⟨gb794, 10, none⟩ = some (.slice A0_10 l0_10.length c0_10) ∧ w'.cell? ⟨gb795, 0, none⟩ = some (.int .i64 a1_0) ∧ w'.cell? ⟨gb795, 1, none⟩ = some (.int .i64 a1_1) ∧ w'.cell? ⟨gb795, 2, none⟩ = some (.int .i64 a1_2) ∧ w'.cell? ⟨gb795, 3, none⟩ = some (.string a1_3) ∧ w'.cell? ⟨gb795, 4, none⟩ = some (.int .i64 a1_4) ∧ w'.cell? ⟨gb795, 5, none⟩ = some (.string a1_5) ∧ w'.cell? ⟨gb795, 6, none⟩ = some (.string a1_6) ∧ w'.cell? ⟨gb795, 7, none⟩ = some (.int .i64 a1_7) ∧ w'.cell? ⟨gb795, 8, none⟩ = some (.int .i64 a1_8) ∧ w'.cell? ⟨gb795, 9, none⟩ = some (.string a1_9) ∧ w'.cell? ⟨gb795, 10, none⟩ = some (.string a1_10) ∧ w'.cell? ⟨gb795, 11, none⟩ = some (.string a1_11) ∧ w'.cell? ⟨gb795, 12, none⟩ = some (.string a1_12) ∧ w'.cell? ⟨gb795, 13, none⟩ = some (.string a1_13) ∧ w'.cell? ⟨gb795, 14, none⟩ = some (.string a1_14) ∧ w'.cell? ⟨gb795, 15, none⟩ = some (.slice A1_15 l1_15.length c1_15) ∧ w'.cell? ⟨gb795, 16, none⟩ = some (.slice A1_16 l1_16.length c1_16) ∧ w'.cell? ⟨gb795, 17, none⟩ = some (.slice A1_17 l1_17.length c1_17) ∧ w'.cell? ⟨gb795, 18, none⟩ = some (.int .i64 a1_18) ∧ w'.cell? ⟨gb795, 19, none⟩ = some (.int .i64 a1_19) ∧ w'.cell? ⟨gb795, 20, none⟩ = some (.int .i64 a1_20) ∧ w'.cell? ⟨gb795, 21, none⟩ = some (.int .i64 a1_21) ∧ w'.cell? ⟨gb795, 22, none⟩ = some (.int .i64 a1_22) ∧ w'.cell? ⟨gb795, 23, none⟩ = some (.int .i64 a1_23) ∧ w'.cell? ⟨gb806, 0, none⟩ = some (.string t798) ∧ w'.cell? ⟨gb806, 1, none⟩ = some (.int .i64 t799) ∧ w'.cell? ⟨gb806, 2, none⟩ = some (.string t800) ∧ w'.cell? ⟨gb806, 3, none⟩ = some (.int .i64 t801) ∧ w'.cell? ⟨gb806, 4, none⟩ = some (.int .i64 t802) ∧ w'.cell? ⟨gb806, 5, none⟩ = some (.string t803)) (ds := []) #[false, false, false, false, false, false, false, false, false, false, false, false, false, false] (by kernel_rfl) rfl rfl ⟨(blk_cell BK794.out 0).trans rfl, (blk_cell BK794.out 1).trans rfl, (blk_cell BK794.out 2).trans rfl, (blk_cell BK794.out 3).trans rfl, (blk_cell BK794.out 4).trans rfl, (blk_cell BK794.out 5).trans rfl, (blk_cell BK794.out 6).trans rfl, (blk_cell BK794.out 7).trans rfl, (blk_cell BK794.out 8).trans rfl, (blk_cell BK794.out 9).trans rfl, (blk_cell BK794.out 10).trans rfl, (blk_cell BK795.out 0).trans rfl, (blk_cell BK795.out 1).trans rfl, (blk_cell BK795.out 2).trans rfl, (blk_cell BK795.out 3).trans rfl, (blk_cell BK795.out 4).trans rfl, (blk_cell BK795.out 5).trans rfl, (blk_cell BK795.out 6).trans rfl, (blk_cell BK795.out 7).trans rfl, (blk_cell BK795.out 8).trans rfl, (blk_cell BK795.out 9).trans rfl, (blk_cell BK795.out 10).trans rfl, (blk_cell BK795.out 11).trans rfl, (blk_cell BK795.out 12).trans rfl, (blk_cell BK795.out 13).trans rfl, (blk_cell BK795.out 14).trans rfl, (blk_cell BK795.out 15).trans rfl, (blk_cell BK795.out 16).trans rfl, (blk_cell BK795.out 17).trans rfl, (blk_cell BK795.out 18).trans rfl, (blk_cell BK795.out 19).trans rfl, (blk_cell BK795.out 20).trans rfl, (blk_cell BK795.out 21).trans rfl, (blk_cell BK795.out 22).trans rfl, (blk_cell BK795.out 23).trans rfl, (blk_cell BK806.out 0).trans rfl, (blk_cell BK806.out 1).trans rfl, (blk_cell BK806.out 2).trans rfl, (blk_cell BK806.out 3).trans rfl, (blk_cell BK806.out 4).trans rfl, (blk_cell BK806.out 5).trans rfl⟩ (fun hHeld => ?_); refine with_tabW bellwetherlaw23_GateGuards.tab4 bellwetherlaw23_GateGuards.bits4 (fun HT_ HW_ => ?_)
    generalize w27.drew = w30 at BK794 BK795 BK796 BK806 HB hHeld ⊢
    refine pure_ (i := 2) (N := some 29) (v := ?_) (a' := ?_) #[false, false, true, false, false, false, false, false, false, false, false, false, false, false] rfl rfl (any_of HT_.out (by kernel_rfl)) (fun _ _ _ h => h) (Or.inl ⟨by rfl, ?_⟩) ?_ ?_
    rotate_left
    ·intro w'
     go_simp
     with_reducible rfl
    rotate_left
    ·simp only [Act.put, List.setIfInBounds_toArray, List.set_cons_zero, List.set_cons_succ, i64_w, i32_w]
     rfl
    refine take_ (i := 0) (N := some 27) (v := ?_) (a' := ?_) #[true, false, true, false, false, false, false, false, false, false, false, false, false, false] rfl rfl (take_ofW HT_.out HW_.out (by kernel_rfl)) (fun _ _ _ h => h) (Or.inl ⟨by rfl, ?_⟩) hHeld ?_ ?_
    rotate_left
    ·rintro w' ⟨s0, s1, s2, s3, s4, s5, s6, s7, s8, s9, s10, s11, s12, s13, s14, s15, s16, s17, s18, s19, s20, s21, s22, s23, s24, s25, s26, s27, s28, s29, s30, s31, s32, s33, s34, s35, s36, s37, s38, s39, s40⟩
     (first | (refine load_cells_11 (ty := 24) (x := .tmp 4) (g := gb794) ?hlo_ ?hx_ Try.underlying24 ?hd_ ?hi_ s0 s1 s2 s3 s4 s5 s6 s7 s8 s9 s10; (case hlo_ => rfl); (case hx_ => rfl); (case hd_ => rfl); (case hi_ => kernel_rfl)) | (refine load_cells_24 (ty := 44) (x := .tmp 5) (g := gb795) ?hlo_ ?hx_ Try.underlying44 ?hd_ ?hi_ s11 s12 s13 s14 s15 s16 s17 s18 s19 s20 s21 s22 s23 s24 s25 s26 s27 s28 s29 s30 s31 s32 s33 s34; (case hlo_ => rfl); (case hx_ => rfl); (case hd_ => rfl); (case hi_ => kernel_rfl)) | (refine load_cells_6 (ty := 76) (x := .tmp 9) (g := gb806) ?hlo_ ?hx_ Try.underlying76 ?hd_ ?hi_ s35 s36 s37 s38 s39 s40; (case hlo_ => rfl); (case hx_ => rfl); (case hd_ => rfl); (case hi_ => kernel_rfl)) | (go_simp; with_reducible rfl))
    rotate_left
    ·simp only [Act.put, List.setIfInBounds_toArray, List.set_cons_zero, List.set_cons_succ, i64_w, i32_w]
     rfl
    refine take_ (i := 1) (N := some 28) (v := ?_) (a' := ?_) #[true, true, true, false, false, false, false, false, false, false, false, false, false, false] rfl rfl (take_ofW HT_.out HW_.out (by kernel_rfl)) (fun _ _ _ h => h) (Or.inl ⟨by rfl, ?_⟩) hHeld ?_ ?_
    rotate_left
    ·rintro w' ⟨s0, s1, s2, s3, s4, s5, s6, s7, s8, s9, s10, s11, s12, s13, s14, s15, s16, s17, s18, s19, s20, s21, s22, s23, s24, s25, s26, s27, s28, s29, s30, s31, s32, s33, s34, s35, s36, s37, s38, s39, s40⟩
     (first | (refine load_cells_11 (ty := 24) (x := .tmp 4) (g := gb794) ?hlo_ ?hx_ Try.underlying24 ?hd_ ?hi_ s0 s1 s2 s3 s4 s5 s6 s7 s8 s9 s10; (case hlo_ => rfl); (case hx_ => rfl); (case hd_ => rfl); (case hi_ => kernel_rfl)) | (refine load_cells_24 (ty := 44) (x := .tmp 5) (g := gb795) ?hlo_ ?hx_ Try.underlying44 ?hd_ ?hi_ s11 s12 s13 s14 s15 s16 s17 s18 s19 s20 s21 s22 s23 s24 s25 s26 s27 s28 s29 s30 s31 s32 s33 s34; (case hlo_ => rfl); (case hx_ => rfl); (case hd_ => rfl); (case hi_ => kernel_rfl)) | (refine load_cells_6 (ty := 76) (x := .tmp 9) (g := gb806) ?hlo_ ?hx_ Try.underlying76 ?hd_ ?hi_ s35 s36 s37 s38 s39 s40; (case hlo_ => rfl); (case hx_ => rfl); (case hd_ => rfl); (case hi_ => kernel_rfl)) | (go_simp; with_reducible rfl))
    rotate_left
    ·simp only [Act.put, List.setIfInBounds_toArray, List.set_cons_zero, List.set_cons_succ, i64_w, i32_w]
     rfl
    refine take_ (i := 3) (N := some 30) (v := ?_) (a' := ?_) #[true, true, true, true, false, false, false, false, false, false, false, false, false, false] rfl rfl (take_ofW HT_.out HW_.out (by kernel_rfl)) (fun _ _ _ h => h) (Or.inl ⟨by rfl, ?_⟩) hHeld ?_ ?_
    rotate_left
    ·rintro w' ⟨s0, s1, s2, s3, s4, s5, s6, s7, s8, s9, s10, s11, s12, s13, s14, s15, s16, s17, s18, s19, s20, s21, s22, s23, s24, s25, s26, s27, s28, s29, s30, s31, s32, s33, s34, s35, s36, s37, s38, s39, s40⟩
     (first | (refine load_cells_11 (ty := 24) (x := .tmp 4) (g := gb794) ?hlo_ ?hx_ Try.underlying24 ?hd_ ?hi_ s0 s1 s2 s3 s4 s5 s6 s7 s8 s9 s10; (case hlo_ => rfl); (case hx_ => rfl); (case hd_ => rfl); (case hi_ => kernel_rfl)) | (refine load_cells_24 (ty := 44) (x := .tmp 5) (g := gb795) ?hlo_ ?hx_ Try.underlying44 ?hd_ ?hi_ s11 s12 s13 s14 s15 s16 s17 s18 s19 s20 s21 s22 s23 s24 s25 s26 s27 s28 s29 s30 s31 s32 s33 s34; (case hlo_ => rfl); (case hx_ => rfl); (case hd_ => rfl); (case hi_ => kernel_rfl)) | (refine load_cells_6 (ty := 76) (x := .tmp 9) (g := gb806) ?hlo_ ?hx_ Try.underlying76 ?hd_ ?hi_ s35 s36 s37 s38 s39 s40; (case hlo_ => rfl); (case hx_ => rfl); (case hd_ => rfl); (case hi_ => kernel_rfl)) | (go_simp; with_reducible rfl))
    rotate_left
    ·simp only [Act.put, List.setIfInBounds_toArray, List.set_cons_zero, List.set_cons_succ, i64_w, i32_w]
     rfl
    refine take_ (i := 5) (N := some 32) (v := ?_) (a' := ?_) #[true, true, true, true, false, true, false, false, false, false, false, false, false, false] rfl rfl (take_ofW HT_.out HW_.out (by kernel_rfl)) (fun _ _ _ h => h) (Or.inl ⟨by rfl, ?_⟩) hHeld ?_ ?_
    rotate_left
    ·rintro w' ⟨s0, s1, s2, s3, s4, s5, s6, s7, s8, s9, s10, s11, s12, s13, s14, s15, s16, s17, s18, s19, s20, s21, s22, s23, s24, s25, s26, s27, s28, s29, s30, s31, s32, s33, s34, s35, s36, s37, s38, s39, s40⟩
     (first | (refine load_cells_11 (ty := 24) (x := .tmp 4) (g := gb794) ?hlo_ ?hx_ Try.underlying24 ?hd_ ?hi_ s0 s1 s2 s3 s4 s5 s6 s7 s8 s9 s10; (case hlo_ => rfl); (case hx_ => rfl); (case hd_ => rfl); (case hi_ => kernel_rfl)) | (refine load_cells_24 (ty := 44) (x := .tmp 5) (g := gb795) ?hlo_ ?hx_ Try.underlying44 ?hd_ ?hi_ s11 s12 s13 s14 s15 s16 s17 s18 s19 s20 s21 s22 s23 s24 s25 s26 s27 s28 s29 s30 s31 s32 s33 s34; (case hlo_ => rfl); (case hx_ => rfl); (case hd_ => rfl); (case hi_ => kernel_rfl)) | (refine load_cells_6 (ty := 76) (x := .tmp 9) (g := gb806) ?hlo_ ?hx_ Try.underlying76 ?hd_ ?hi_ s35 s36 s37 s38 s39 s40; (case hlo_ => rfl); (case hx_ => rfl); (case hd_ => rfl); (case hi_ => kernel_rfl)) | (go_simp; with_reducible rfl))
    rotate_left
    ·simp only [Act.put, List.setIfInBounds_toArray, List.set_cons_zero, List.set_cons_succ, i64_w, i32_w]
     rfl
    refine one_ (i := 4) (N := some 31) #[true, true, true, true, true, true, false, false, false, false, false, false, false, false] rfl rfl (one_of HT_.out (by kernel_rfl)) (by decide) (fun K hK => ?_)
    refine goes_ Try.func68 (by kernel_rfl) rfl #[.agg #[.int .i64 a0_0, .int .i64 a0_1, .int .i64 a0_2, .int .i64 a0_3, .int .i64 a0_4, .int .i64 a0_5, .int .i64 a0_6, .int .i64 a0_7, .int .i64 a0_8, .int .i64 a0_9, .slice A0_10 l0_10.length c0_10], .agg #[.int .i64 a1_0, .int .i64 a1_1, .int .i64 a1_2, .string a1_3, .int .i64 a1_4, .string a1_5, .string a1_6, .int .i64 a1_7, .int .i64 a1_8, .string a1_9, .string a1_10, .string a1_11, .string a1_12, .string a1_13, .string a1_14, .slice A1_15 l1_15.length c1_15, .slice A1_16 l1_16.length c1_16, .slice A1_17 l1_17.length c1_17, .int .i64 a1_18, .int .i64 a1_19, .int .i64 a1_20, .int .i64 a1_21, .int .i64 a1_22, .int .i64 a1_23], .int .i64 a2, .agg #[.string t798, .int .i64 t799, .string t800, .int .i64 t801, .int .i64 t802, .string t803]] (by rfl) rfl rfl (by (try simp only [List.map_toArray, List.map_cons, List.map_nil]); first | done | rfl | (simp only [List.length_drop, List.length_take]; rfl)) ?_
    with_reducible refine (gate_Guard.calls k a0_0 a0_1 a0_2 a0_3 a0_4 a0_5 a0_6 a0_7 a0_8 a0_9 _ _ l0_10 a1_0 a1_1 a1_2 a1_3 a1_4 a1_5 a1_6 a1_7 a1_8 a1_9 a1_10 a1_11 a1_12 a1_13 a1_14 _ _ l1_15 _ _ l1_16 _ _ l1_17 a1_18 a1_19 a1_20 a1_21 a1_22 a1_23 a2 t798 t799 t800 t801 t802 t803 t807 t808 t809 t810 t811 t812 _ ?side1 ?side2 ?side3 ?side4 ?side5 ?side6 ?side7 ?side8 A28.out).mono ?_
    (case side1 => exact (Kd.C_below HR0_10.out HB.out))
    (case side2 => exact HC0_10.out)
    (case side3 => exact (Kd.C_below HR1_15.out HB.out))
    (case side4 => exact HC1_15.out)
    (case side5 => exact (Kd.C_below HR1_16.out HB.out))
    (case side6 => exact HC1_16.out)
    (case side7 => exact (Kd.C_below HR1_17.out HB.out))
    (case side8 => exact HC1_17.out)
    rintro e w31 ⟨rfl, hb⟩
    refine ⟨_, rfl, ?_⟩
    have n0_ := Aside0.mk (blk_below BK794.out hb)
    have n1_ := Aside0.mk (blk_below BK795.out hb)
    have n2_ := Aside0.mk (blk_below BK796.out hb)
    have n3_ := Aside0.mk (blk_below BK806.out hb)
    have n4_ := Aside0.mk (below_step HB.out hb)
    clear BK794
    clear BK795
    clear BK796
    clear BK806
    clear HB
    have BK794 := n0_
    have BK795 := n1_
    have BK796 := n2_
    have BK806 := n3_
    have HB := n4_
    clear n0_ n1_ n2_ n3_ n4_
    (try clear hb)
    (try clear hb2)
    (try clear hk)
    (try clear hi)
    refine hK.out _ _ (and_11 BK794.out (and_24 BK795.out (cells_6 BK806.out))) (fun hHeld => ?_)
    clear hK K
    refine norm_ (a' := ?_) ?_ ?_
    rotate_left
    ·show Act.put _ (some 31) _ = _
     simp only [Act.put, List.setIfInBounds_toArray, List.set_cons_zero, List.set_cons_succ, i64_w, i32_w]
     rfl
    refine pure_ (i := 6) (N := some 33) (v := ?_) (a' := ?_) #[true, true, true, true, true, true, true, false, false, false, false, false, false, false] rfl rfl (any_of HT_.out (by kernel_rfl)) (fun _ _ _ h => h) (Or.inl ⟨by rfl, ?_⟩) ?_ ?_
    rotate_left
    ·intro w'
     go_simp
     with_reducible rfl
    rotate_left
    ·simp only [Act.put, List.setIfInBounds_toArray, List.set_cons_zero, List.set_cons_succ, i64_w, i32_w]
     rfl
    refine pure_ (i := 7) (N := some 34) (v := ?_) (a' := ?_) #[true, true, true, true, true, true, true, true, false, false, false, false, false, false] rfl rfl (any_of HT_.out (by kernel_rfl)) (fun _ _ _ h => h) (Or.inl ⟨by rfl, ?_⟩) ?_ ?_
    rotate_left
    ·intro w'
     go_simp
     with_reducible rfl
    rotate_left
    ·simp only [Act.put, List.setIfInBounds_toArray, List.set_cons_zero, List.set_cons_succ, i64_w, i32_w]
     rfl
    refine pure_ (i := 8) (N := some 35) (v := undef) (a' := ?_) #[true, true, true, true, true, true, true, true, true, false, false, false, false, false] rfl rfl (any_of HT_.out (by kernel_rfl)) (fun _ _ _ h => h) (Or.inr ⟨by rfl, rfl⟩) ?_ ?_
    rotate_left
    ·simp only [Act.put, List.setIfInBounds_toArray, List.set_cons_zero, List.set_cons_succ, i64_w, i32_w]
     rfl
    refine pure_ (i := 9) (N := some 36) (v := undef) (a' := ?_) #[true, true, true, true, true, true, true, true, true, true, false, false, false, false] rfl rfl (any_of HT_.out (by kernel_rfl)) (fun _ _ _ h => h) (Or.inr ⟨by rfl, rfl⟩) ?_ ?_
    rotate_left
    ·simp only [Act.put, List.setIfInBounds_toArray, List.set_cons_zero, List.set_cons_succ, i64_w, i32_w]
     rfl
    refine pure_ (i := 10) (N := some 37) (v := undef) (a' := ?_) #[true, true, true, true, true, true, true, true, true, true, true, false, false, false] rfl rfl (any_of HT_.out (by kernel_rfl)) (fun _ _ _ h => h) (Or.inr ⟨by rfl, rfl⟩) ?_ ?_
    rotate_left
    ·simp only [Act.put, List.setIfInBounds_toArray, List.set_cons_zero, List.set_cons_succ, i64_w, i32_w]
     rfl
    refine pure_ (i := 11) (N := some 38) (v := undef) (a' := ?_) #[true, true, true, true, true, true, true, true, true, true, true, true, false, false] rfl rfl (any_of HT_.out (by kernel_rfl)) (fun _ _ _ h => h) (Or.inr ⟨by rfl, rfl⟩) ?_ ?_
    rotate_left
    ·simp only [Act.put, List.setIfInBounds_toArray, List.set_cons_zero, List.set_cons_succ, i64_w, i32_w]
     rfl
    refine pure_ (i := 12) (N := some 39) (v := undef) (a' := ?_) #[true, true, true, true, true, true, true, true, true, true, true, true, true, false] rfl rfl (any_of HT_.out (by kernel_rfl)) (fun _ _ _ h => h) (Or.inr ⟨by rfl, rfl⟩) ?_ ?_
    rotate_left
    ·simp only [Act.put, List.setIfInBounds_toArray, List.set_cons_zero, List.set_cons_succ, i64_w, i32_w]
     rfl
    refine pure_ (i := 13) (N := some 40) (v := ?_) (a' := ?_) #[true, true, true, true, true, true, true, true, true, true, true, true, true, true] rfl rfl (any_of HT_.out (by kernel_rfl)) (fun _ _ _ h => h) (Or.inl ⟨by rfl, ?_⟩) ?_ ?_
    rotate_left
    ·intro w'
     go_simp
     with_reducible rfl
    rotate_left
    ·simp only [Act.put, List.setIfInBounds_toArray, List.set_cons_zero, List.set_cons_succ, i64_w, i32_w]
     rfl
    refine done_ (done_of HT_.out (by kernel_rfl)) ?_
    try go_wp2
    go_meet
    case rel => exact ⟨_, (true), (by first | rfl | (simp; done) | (simp [*]; done)), H', ⟨by first | omega | exact Nat.le_refl _⟩, ⟨by (with_reducible repeat (first | refine blk_drewN ?_ _ | refine blk_drew ?_ | refine blk_alloc ?_ _)); exact BK794.out⟩, ⟨by (with_reducible repeat (first | refine blk_drewN ?_ _ | refine blk_drew ?_ | refine blk_alloc ?_ _)); exact BK795.out⟩, ⟨by (with_reducible repeat (first | refine blk_drewN ?_ _ | refine blk_drew ?_ | refine blk_alloc ?_ _)); exact BK796.out⟩, ⟨by (with_reducible repeat (first | refine blk_drewN ?_ _ | refine blk_drew ?_ | refine blk_alloc ?_ _)); exact BK806.out⟩, ⟨by repeat (first | (with_reducible first | exact HB.out | apply below_alloc | apply pw_below_drewN | apply below_drew1 | refine below_set ?_ GE794.out | refine below_set ?_ GE795.out | refine below_set ?_ GE796.out | refine below_set ?_ GE806.out) | exact HB.out)⟩⟩
   ·rw [if_neg c29] at H
    have c29b0 : (!(t807.toList == t798.toList) || (!(t808 == t799) || (!(t809.toList == t800.toList) || (!(t810 == t801) || (!(t811 == t802) || (!(t812.toList == t803.toList))))))) = false := by simpa using c29
    clear c29
    (first | rw [c29b0] | (simp only [i64_w, i32_w]; rw [c29b0]) | skip)
    replace H := Option.bind_eq_some_iff.mp H
    obtain ⟨⟨t813, t814, t815, t816, t817, t818⟩, A320, H⟩ := H
    replace H : ((bellwetherref10_Strip.f a3_0 a3_1 a3_2 a3_3 a3_4 a3_5).bind fun bt819 => (bellwetherlaw23_GateGuards.j0 k a2 t804 t805 (!(t813.toList == bt819.1.toList) || (!(t814 == bt819.2.1) || (!(t815.toList == bt819.2.2.1.toList) || (!(t816 == bt819.2.2.2.1) || (!(t817 == bt819.2.2.2.2.1) || (!(t818.toList == bt819.2.2.2.2.2.toList))))))) a0_0 a0_1 a0_2 a0_3 a0_4 a0_5 a0_6 a0_7 a0_8 a0_9 l0_10 a1_0 a1_1 a1_2 a1_3 a1_4 a1_5 a1_6 a1_7 a1_8 a1_9 a1_10 a1_11 a1_12 a1_13 a1_14 l1_15 l1_16 l1_17 a1_18 a1_19 a1_20 a1_21 a1_22 a1_23 a3_0 a3_1 a3_2 a3_3 a3_4 a3_5 t798 t799 t800 t801 t802 t803)) = some r := H
    have A32 := Aside0.mk A320
    clear A320
    replace H := Option.bind_eq_some_iff.mp H
    obtain ⟨⟨t819, t820, t821, t822, t823, t824⟩, A330, H⟩ := H
    replace H : (bellwetherlaw23_GateGuards.j0 k a2 t804 t805 (!(t813.toList == t819.toList) || (!(t814 == t820) || (!(t815.toList == t821.toList) || (!(t816 == t822) || (!(t817 == t823) || (!(t818.toList == t824.toList))))))) a0_0 a0_1 a0_2 a0_3 a0_4 a0_5 a0_6 a0_7 a0_8 a0_9 l0_10 a1_0 a1_1 a1_2 a1_3 a1_4 a1_5 a1_6 a1_7 a1_8 a1_9 a1_10 a1_11 a1_12 a1_13 a1_14 l1_15 l1_16 l1_17 a1_18 a1_19 a1_20 a1_21 a1_22 a1_23 a3_0 a3_1 a3_2 a3_3 a3_4 a3_5 t798 t799 t800 t801 t802 t803) = some r := H
    have A33 := Aside0.mk A330
    clear A330
    have H' := Aside0.mk H
    clear H
    try go_wp2
    have n0_ := Aside0.mk (blk_drew BK794.out)
    have n1_ := Aside0.mk (blk_drew BK795.out)
    have n2_ := Aside0.mk (blk_drew BK796.out)
    have n3_ := Aside0.mk (blk_drew BK806.out)
    have n4_ := Aside0.mk (below_drew1 HB.out)
    clear BK794
    clear BK795
    clear BK796
    clear BK806
    clear HB
    have BK794 := n0_
    have BK795 := n1_
    have BK796 := n2_
    have BK806 := n3_
    have HB := n4_
    clear n0_ n1_ n2_ n3_ n4_
    refine start_ (n := 14) (S := fun w' => w'.cell? ⟨gb794, 0, none⟩ = some (.int .i64 a0_0) ∧ w'.cell? ⟨gb794, 1, none⟩ = some (.int .i64 a0_1) ∧ w'.cell? ⟨gb794, 2, none⟩ = some (.int .i64 a0_2) ∧ w'.cell? ⟨gb794, 3, none⟩ = some (.int .i64 a0_3) ∧ w'.cell? ⟨gb794, 4, none⟩ = some (.int .i64 a0_4) ∧ w'.cell? ⟨gb794, 5, none⟩ = some (.int .i64 a0_5) ∧ w'.cell? ⟨gb794, 6, none⟩ = some (.int .i64 a0_6) ∧ w'.cell? ⟨gb794, 7, none⟩ = some (.int .i64 a0_7) ∧ w'.cell? ⟨gb794, 8, none⟩ = some (.int .i64 a0_8) ∧ w'.cell? ⟨gb794, 9, none⟩ = some (.int .i64 a0_9) ∧ w'.cell? ⟨gb794, 10, none⟩ = some (.slice A0_10 l0_10.length c0_10) ∧ w'.cell? ⟨gb795, 0, none⟩ = some (.int .i64 a1_0) ∧ w'.cell? ⟨gb795, 1, none⟩ = some (.int .i64 a1_1) ∧ w'.cell? ⟨gb795, 2, none⟩ = some (.int .i64 a1_2) ∧ w'.cell? ⟨gb795, 3, none⟩ = some (.string a1_3) ∧ w'.cell? ⟨gb795, 4, none⟩ = some (.int .i64 a1_4) ∧ w'.cell? ⟨gb795, 5, none⟩ = some (.string a1_5) ∧ w'.cell? ⟨gb795, 6, none⟩ = some (.string a1_6) ∧ w'.cell? ⟨gb795, 7, none⟩ = some (.int .i64 a1_7) ∧ w'.cell? ⟨gb795, 8, none⟩ = some (.int .i64 a1_8) ∧ w'.cell? ⟨gb795, 9, none⟩ = some (.string a1_9) ∧ w'.cell? ⟨gb795, 10, none⟩ = some (.string a1_10) ∧ w'.cell? ⟨gb795, 11, none⟩ = some (.string a1_11) ∧ w'.cell? ⟨gb795, 12, none⟩ = some (.string a1_12) ∧ w'.cell? ⟨gb795, 13, none⟩ = some (.string a1_13) ∧ w'.cell? ⟨gb795, 14, none⟩ = some (.string a1_14) ∧ w'.cell? ⟨gb795, 15, none⟩ = some (.slice A1_15 l1_15.length c1_15) ∧ w'.cell? ⟨gb795, 16, none⟩ = some (.slice A1_16 l1_16.length c1_16) ∧ w'.cell? ⟨gb795, 17, none⟩ = some (.slice A1_17 l1_17.length c1_17) ∧ w'.cell? ⟨gb795, 18, none⟩ = some (.int .i64 a1_18) ∧ w'.cell? ⟨gb795, 19, none⟩ = some (.int .i64 a1_19) ∧ w'.cell? ⟨gb795, 20, none⟩ = some (.int .i64 a1_20) ∧ w'.cell? ⟨gb795, 21, none⟩ = some (.int .i64 a1_21) ∧ w'.cell? ⟨gb795, 22, none⟩ = some (.int .i64 a1_22) ∧ w'.cell? ⟨gb795, 23, none⟩ = some (.int .i64 a1_23) ∧ w'.cell? ⟨gb806, 0, none⟩ = some (.string t798) ∧ w'.cell? ⟨gb806, 1, none⟩ = some (.int .i64 t799) ∧ w'.cell? ⟨gb806, 2, none⟩ = some (.string t800) ∧ w'.cell? ⟨gb806, 3, none⟩ = some (.int .i64 t801) ∧ w'.cell? ⟨gb806, 4, none⟩ = some (.int .i64 t802) ∧ w'.cell? ⟨gb806, 5, none⟩ = some (.string t803) ∧ w'.cell? ⟨gb796, 0, none⟩ = some (.string a3_0) ∧ w'.cell? ⟨gb796, 1, none⟩ = some (.int .i64 a3_1) ∧ w'.cell? ⟨gb796, 2, none⟩ = some (.string a3_2) ∧ w'.cell? ⟨gb796, 3, none⟩ = some (.int .i64 a3_3) ∧ w'.cell? ⟨gb796, 4, none⟩ = some (.int .i64 a3_4) ∧ w'.cell? ⟨gb796, 5, none⟩ = some (.string a3_5)) (ds := []) #[false, false, false, false, false, false, false, false, false, false, false, false, false, false] (by kernel_rfl) rfl rfl ⟨(blk_cell BK794.out 0).trans rfl, (blk_cell BK794.out 1).trans rfl, (blk_cell BK794.out 2).trans rfl, (blk_cell BK794.out 3).trans rfl, (blk_cell BK794.out 4).trans rfl, (blk_cell BK794.out 5).trans rfl, (blk_cell BK794.out 6).trans rfl, (blk_cell BK794.out 7).trans rfl, (blk_cell BK794.out 8).trans rfl, (blk_cell BK794.out 9).trans rfl, (blk_cell BK794.out 10).trans rfl, (blk_cell BK795.out 0).trans rfl, (blk_cell BK795.out 1).trans rfl, (blk_cell BK795.out 2).trans rfl, (blk_cell BK795.out 3).trans rfl, (blk_cell BK795.out 4).trans rfl, (blk_cell BK795.out 5).trans rfl, (blk_cell BK795.out 6).trans rfl, (blk_cell BK795.out 7).trans rfl, (blk_cell BK795.out 8).trans rfl, (blk_cell BK795.out 9).trans rfl, (blk_cell BK795.out 10).trans rfl, (blk_cell BK795.out 11).trans rfl, (blk_cell BK795.out 12).trans rfl, (blk_cell BK795.out 13).trans rfl, (blk_cell BK795.out 14).trans rfl, (blk_cell BK795.out 15).trans rfl, (blk_cell BK795.out 16).trans rfl, (blk_cell BK795.out 17).trans rfl, (blk_cell BK795.out 18).trans rfl, (blk_cell BK795.out 19).trans rfl, (blk_cell BK795.out 20).trans rfl, (blk_cell BK795.out 21).trans rfl, (blk_cell BK795.out 22).trans rfl, (blk_cell BK795.out 23).trans rfl, (blk_cell BK806.out 0).trans rfl, (blk_cell BK806.out 1).trans rfl, (blk_cell BK806.out 2).trans rfl, (blk_cell BK806.out 3).trans rfl, (blk_cell BK806.out 4).trans rfl, (blk_cell BK806.out 5).trans rfl, (blk_cell BK796.out 0).trans rfl, (blk_cell BK796.out 1).trans rfl, (blk_cell BK796.out 2).trans rfl, (blk_cell BK796.out 3).trans rfl, (blk_cell BK796.out 4).trans rfl, (blk_cell BK796.out 5).trans rfl⟩ (fun hHeld => ?_); refine with_tabW bellwetherlaw23_GateGuards.tab4 bellwetherlaw23_GateGuards.bits4 (fun HT_ HW_ => ?_)
    generalize w27.drew = w34 at BK794 BK795 BK796 BK806 HB hHeld ⊢
    refine pure_ (i := 2) (N := some 29) (v := ?_) (a' := ?_) #[false, false, true, false, false, false, false, false, false, false, false, false, false, false] rfl rfl (any_of HT_.out (by kernel_rfl)) (fun _ _ _ h => h) (Or.inl ⟨by rfl, ?_⟩) ?_ ?_
    rotate_left
    ·intro w'
     go_simp
     with_reducible rfl
    rotate_left
    ·simp only [Act.put, List.setIfInBounds_toArray, List.set_cons_zero, List.set_cons_succ, i64_w, i32_w]
     rfl
    refine take_ (i := 0) (N := some 27) (v := ?_) (a' := ?_) #[true, false, true, false, false, false, false, false, false, false, false, false, false, false] rfl rfl (take_ofW HT_.out HW_.out (by kernel_rfl)) (fun _ _ _ h => h) (Or.inl ⟨by rfl, ?_⟩) hHeld ?_ ?_
    rotate_left
    ·rintro w' ⟨s0, s1, s2, s3, s4, s5, s6, s7, s8, s9, s10, s11, s12, s13, s14, s15, s16, s17, s18, s19, s20, s21, s22, s23, s24, s25, s26, s27, s28, s29, s30, s31, s32, s33, s34, s35, s36, s37, s38, s39, s40, s41, s42, s43, s44, s45, s46⟩
     (first | (refine load_cells_11 (ty := 24) (x := .tmp 4) (g := gb794) ?hlo_ ?hx_ Try.underlying24 ?hd_ ?hi_ s0 s1 s2 s3 s4 s5 s6 s7 s8 s9 s10; (case hlo_ => rfl); (case hx_ => rfl); (case hd_ => rfl); (case hi_ => kernel_rfl)) | (refine load_cells_24 (ty := 44) (x := .tmp 5) (g := gb795) ?hlo_ ?hx_ Try.underlying44 ?hd_ ?hi_ s11 s12 s13 s14 s15 s16 s17 s18 s19 s20 s21 s22 s23 s24 s25 s26 s27 s28 s29 s30 s31 s32 s33 s34; (case hlo_ => rfl); (case hx_ => rfl); (case hd_ => rfl); (case hi_ => kernel_rfl)) | (refine load_cells_6 (ty := 76) (x := .tmp 7) (g := gb796) ?hlo_ ?hx_ Try.underlying76 ?hd_ ?hi_ s41 s42 s43 s44 s45 s46; (case hlo_ => rfl); (case hx_ => rfl); (case hd_ => rfl); (case hi_ => kernel_rfl)) | (refine load_cells_6 (ty := 76) (x := .tmp 9) (g := gb806) ?hlo_ ?hx_ Try.underlying76 ?hd_ ?hi_ s35 s36 s37 s38 s39 s40; (case hlo_ => rfl); (case hx_ => rfl); (case hd_ => rfl); (case hi_ => kernel_rfl)) | (go_simp; with_reducible rfl))
    rotate_left
    ·simp only [Act.put, List.setIfInBounds_toArray, List.set_cons_zero, List.set_cons_succ, i64_w, i32_w]
     rfl
    refine take_ (i := 1) (N := some 28) (v := ?_) (a' := ?_) #[true, true, true, false, false, false, false, false, false, false, false, false, false, false] rfl rfl (take_ofW HT_.out HW_.out (by kernel_rfl)) (fun _ _ _ h => h) (Or.inl ⟨by rfl, ?_⟩) hHeld ?_ ?_
    rotate_left
    ·rintro w' ⟨s0, s1, s2, s3, s4, s5, s6, s7, s8, s9, s10, s11, s12, s13, s14, s15, s16, s17, s18, s19, s20, s21, s22, s23, s24, s25, s26, s27, s28, s29, s30, s31, s32, s33, s34, s35, s36, s37, s38, s39, s40, s41, s42, s43, s44, s45, s46⟩
     (first | (refine load_cells_11 (ty := 24) (x := .tmp 4) (g := gb794) ?hlo_ ?hx_ Try.underlying24 ?hd_ ?hi_ s0 s1 s2 s3 s4 s5 s6 s7 s8 s9 s10; (case hlo_ => rfl); (case hx_ => rfl); (case hd_ => rfl); (case hi_ => kernel_rfl)) | (refine load_cells_24 (ty := 44) (x := .tmp 5) (g := gb795) ?hlo_ ?hx_ Try.underlying44 ?hd_ ?hi_ s11 s12 s13 s14 s15 s16 s17 s18 s19 s20 s21 s22 s23 s24 s25 s26 s27 s28 s29 s30 s31 s32 s33 s34; (case hlo_ => rfl); (case hx_ => rfl); (case hd_ => rfl); (case hi_ => kernel_rfl)) | (refine load_cells_6 (ty := 76) (x := .tmp 7) (g := gb796) ?hlo_ ?hx_ Try.underlying76 ?hd_ ?hi_ s41 s42 s43 s44 s45 s46; (case hlo_ => rfl); (case hx_ => rfl); (case hd_ => rfl); (case hi_ => kernel_rfl)) | (refine load_cells_6 (ty := 76) (x := .tmp 9) (g := gb806) ?hlo_ ?hx_ Try.underlying76 ?hd_ ?hi_ s35 s36 s37 s38 s39 s40; (case hlo_ => rfl); (case hx_ => rfl); (case hd_ => rfl); (case hi_ => kernel_rfl)) | (go_simp; with_reducible rfl))
    rotate_left
    ·simp only [Act.put, List.setIfInBounds_toArray, List.set_cons_zero, List.set_cons_succ, i64_w, i32_w]
     rfl
    refine take_ (i := 3) (N := some 30) (v := ?_) (a' := ?_) #[true, true, true, true, false, false, false, false, false, false, false, false, false, false] rfl rfl (take_ofW HT_.out HW_.out (by kernel_rfl)) (fun _ _ _ h => h) (Or.inl ⟨by rfl, ?_⟩) hHeld ?_ ?_
    rotate_left
    ·rintro w' ⟨s0, s1, s2, s3, s4, s5, s6, s7, s8, s9, s10, s11, s12, s13, s14, s15, s16, s17, s18, s19, s20, s21, s22, s23, s24, s25, s26, s27, s28, s29, s30, s31, s32, s33, s34, s35, s36, s37, s38, s39, s40, s41, s42, s43, s44, s45, s46⟩
     (first | (refine load_cells_11 (ty := 24) (x := .tmp 4) (g := gb794) ?hlo_ ?hx_ Try.underlying24 ?hd_ ?hi_ s0 s1 s2 s3 s4 s5 s6 s7 s8 s9 s10; (case hlo_ => rfl); (case hx_ => rfl); (case hd_ => rfl); (case hi_ => kernel_rfl)) | (refine load_cells_24 (ty := 44) (x := .tmp 5) (g := gb795) ?hlo_ ?hx_ Try.underlying44 ?hd_ ?hi_ s11 s12 s13 s14 s15 s16 s17 s18 s19 s20 s21 s22 s23 s24 s25 s26 s27 s28 s29 s30 s31 s32 s33 s34; (case hlo_ => rfl); (case hx_ => rfl); (case hd_ => rfl); (case hi_ => kernel_rfl)) | (refine load_cells_6 (ty := 76) (x := .tmp 7) (g := gb796) ?hlo_ ?hx_ Try.underlying76 ?hd_ ?hi_ s41 s42 s43 s44 s45 s46; (case hlo_ => rfl); (case hx_ => rfl); (case hd_ => rfl); (case hi_ => kernel_rfl)) | (refine load_cells_6 (ty := 76) (x := .tmp 9) (g := gb806) ?hlo_ ?hx_ Try.underlying76 ?hd_ ?hi_ s35 s36 s37 s38 s39 s40; (case hlo_ => rfl); (case hx_ => rfl); (case hd_ => rfl); (case hi_ => kernel_rfl)) | (go_simp; with_reducible rfl))
    rotate_left
    ·simp only [Act.put, List.setIfInBounds_toArray, List.set_cons_zero, List.set_cons_succ, i64_w, i32_w]
     rfl
    refine take_ (i := 5) (N := some 32) (v := ?_) (a' := ?_) #[true, true, true, true, false, true, false, false, false, false, false, false, false, false] rfl rfl (take_ofW HT_.out HW_.out (by kernel_rfl)) (fun _ _ _ h => h) (Or.inl ⟨by rfl, ?_⟩) hHeld ?_ ?_
    rotate_left
    ·rintro w' ⟨s0, s1, s2, s3, s4, s5, s6, s7, s8, s9, s10, s11, s12, s13, s14, s15, s16, s17, s18, s19, s20, s21, s22, s23, s24, s25, s26, s27, s28, s29, s30, s31, s32, s33, s34, s35, s36, s37, s38, s39, s40, s41, s42, s43, s44, s45, s46⟩
     (first | (refine load_cells_11 (ty := 24) (x := .tmp 4) (g := gb794) ?hlo_ ?hx_ Try.underlying24 ?hd_ ?hi_ s0 s1 s2 s3 s4 s5 s6 s7 s8 s9 s10; (case hlo_ => rfl); (case hx_ => rfl); (case hd_ => rfl); (case hi_ => kernel_rfl)) | (refine load_cells_24 (ty := 44) (x := .tmp 5) (g := gb795) ?hlo_ ?hx_ Try.underlying44 ?hd_ ?hi_ s11 s12 s13 s14 s15 s16 s17 s18 s19 s20 s21 s22 s23 s24 s25 s26 s27 s28 s29 s30 s31 s32 s33 s34; (case hlo_ => rfl); (case hx_ => rfl); (case hd_ => rfl); (case hi_ => kernel_rfl)) | (refine load_cells_6 (ty := 76) (x := .tmp 7) (g := gb796) ?hlo_ ?hx_ Try.underlying76 ?hd_ ?hi_ s41 s42 s43 s44 s45 s46; (case hlo_ => rfl); (case hx_ => rfl); (case hd_ => rfl); (case hi_ => kernel_rfl)) | (refine load_cells_6 (ty := 76) (x := .tmp 9) (g := gb806) ?hlo_ ?hx_ Try.underlying76 ?hd_ ?hi_ s35 s36 s37 s38 s39 s40; (case hlo_ => rfl); (case hx_ => rfl); (case hd_ => rfl); (case hi_ => kernel_rfl)) | (go_simp; with_reducible rfl))
    rotate_left
    ·simp only [Act.put, List.setIfInBounds_toArray, List.set_cons_zero, List.set_cons_succ, i64_w, i32_w]
     rfl
    refine one_ (i := 4) (N := some 31) #[true, true, true, true, true, true, false, false, false, false, false, false, false, false] rfl rfl (one_of HT_.out (by kernel_rfl)) (by decide) (fun K hK => ?_)
    refine goes_ Try.func68 (by kernel_rfl) rfl #[.agg #[.int .i64 a0_0, .int .i64 a0_1, .int .i64 a0_2, .int .i64 a0_3, .int .i64 a0_4, .int .i64 a0_5, .int .i64 a0_6, .int .i64 a0_7, .int .i64 a0_8, .int .i64 a0_9, .slice A0_10 l0_10.length c0_10], .agg #[.int .i64 a1_0, .int .i64 a1_1, .int .i64 a1_2, .string a1_3, .int .i64 a1_4, .string a1_5, .string a1_6, .int .i64 a1_7, .int .i64 a1_8, .string a1_9, .string a1_10, .string a1_11, .string a1_12, .string a1_13, .string a1_14, .slice A1_15 l1_15.length c1_15, .slice A1_16 l1_16.length c1_16, .slice A1_17 l1_17.length c1_17, .int .i64 a1_18, .int .i64 a1_19, .int .i64 a1_20, .int .i64 a1_21, .int .i64 a1_22, .int .i64 a1_23], .int .i64 a2, .agg #[.string t798, .int .i64 t799, .string t800, .int .i64 t801, .int .i64 t802, .string t803]] (by rfl) rfl rfl (by (try simp only [List.map_toArray, List.map_cons, List.map_nil]); first | done | rfl | (simp only [List.length_drop, List.length_take]; rfl)) ?_
    with_reducible refine (gate_Guard.calls k a0_0 a0_1 a0_2 a0_3 a0_4 a0_5 a0_6 a0_7 a0_8 a0_9 _ _ l0_10 a1_0 a1_1 a1_2 a1_3 a1_4 a1_5 a1_6 a1_7 a1_8 a1_9 a1_10 a1_11 a1_12 a1_13 a1_14 _ _ l1_15 _ _ l1_16 _ _ l1_17 a1_18 a1_19 a1_20 a1_21 a1_22 a1_23 a2 t798 t799 t800 t801 t802 t803 t807 t808 t809 t810 t811 t812 _ ?side1 ?side2 ?side3 ?side4 ?side5 ?side6 ?side7 ?side8 A28.out).mono ?_
    (case side1 => exact (Kd.C_below HR0_10.out HB.out))
    (case side2 => exact HC0_10.out)
    (case side3 => exact (Kd.C_below HR1_15.out HB.out))
    (case side4 => exact HC1_15.out)
    (case side5 => exact (Kd.C_below HR1_16.out HB.out))
    (case side6 => exact HC1_16.out)
    (case side7 => exact (Kd.C_below HR1_17.out HB.out))
    (case side8 => exact HC1_17.out)
    rintro e w35 ⟨rfl, hb⟩
    refine ⟨_, rfl, ?_⟩
    have n0_ := Aside0.mk (blk_below BK794.out hb)
    have n1_ := Aside0.mk (blk_below BK795.out hb)
    have n2_ := Aside0.mk (blk_below BK796.out hb)
    have n3_ := Aside0.mk (blk_below BK806.out hb)
    have n4_ := Aside0.mk (below_step HB.out hb)
    clear BK794
    clear BK795
    clear BK796
    clear BK806
    clear HB
    have BK794 := n0_
    have BK795 := n1_
    have BK796 := n2_
    have BK806 := n3_
    have HB := n4_
    clear n0_ n1_ n2_ n3_ n4_
    (try clear hb)
    (try clear hb2)
    (try clear hk)
    (try clear hi)
    refine hK.out _ _ (and_11 BK794.out (and_24 BK795.out (and_6 BK806.out (cells_6 BK796.out)))) (fun hHeld => ?_)
    clear hK K
    refine norm_ (a' := ?_) ?_ ?_
    rotate_left
    ·show Act.put _ (some 31) _ = _
     simp only [Act.put, List.setIfInBounds_toArray, List.set_cons_zero, List.set_cons_succ, i64_w, i32_w]
     rfl
    refine pure_ (i := 6) (N := some 33) (v := ?_) (a' := ?_) #[true, true, true, true, true, true, true, false, false, false, false, false, false, false] rfl rfl (any_of HT_.out (by kernel_rfl)) (fun _ _ _ h => h) (Or.inl ⟨by rfl, ?_⟩) ?_ ?_
    rotate_left
    ·intro w'
     go_simp
     with_reducible rfl
    rotate_left
    ·simp only [Act.put, List.setIfInBounds_toArray, List.set_cons_zero, List.set_cons_succ, i64_w, i32_w]
     rfl
    refine pure_ (i := 7) (N := some 34) (v := ?_) (a' := ?_) #[true, true, true, true, true, true, true, true, false, false, false, false, false, false] rfl rfl (any_of HT_.out (by kernel_rfl)) (fun _ _ _ h => h) (Or.inl ⟨by rfl, ?_⟩) ?_ ?_
    rotate_left
    ·intro w'
     go_simp
     with_reducible rfl
    rotate_left
    ·simp only [Act.put, List.setIfInBounds_toArray, List.set_cons_zero, List.set_cons_succ, i64_w, i32_w]
     rfl
    refine take_ (i := 8) (N := some 35) (v := ?_) (a' := ?_) #[true, true, true, true, true, true, true, true, true, false, false, false, false, false] rfl rfl (take_ofW HT_.out HW_.out (by kernel_rfl)) (fun _ _ _ h => h) (Or.inl ⟨by rfl, ?_⟩) hHeld ?_ ?_
    rotate_left
    ·rintro w' ⟨s0, s1, s2, s3, s4, s5, s6, s7, s8, s9, s10, s11, s12, s13, s14, s15, s16, s17, s18, s19, s20, s21, s22, s23, s24, s25, s26, s27, s28, s29, s30, s31, s32, s33, s34, s35, s36, s37, s38, s39, s40, s41, s42, s43, s44, s45, s46⟩
     (first | (refine load_cells_11 (ty := 24) (x := .tmp 4) (g := gb794) ?hlo_ ?hx_ Try.underlying24 ?hd_ ?hi_ s0 s1 s2 s3 s4 s5 s6 s7 s8 s9 s10; (case hlo_ => rfl); (case hx_ => rfl); (case hd_ => rfl); (case hi_ => kernel_rfl)) | (refine load_cells_24 (ty := 44) (x := .tmp 5) (g := gb795) ?hlo_ ?hx_ Try.underlying44 ?hd_ ?hi_ s11 s12 s13 s14 s15 s16 s17 s18 s19 s20 s21 s22 s23 s24 s25 s26 s27 s28 s29 s30 s31 s32 s33 s34; (case hlo_ => rfl); (case hx_ => rfl); (case hd_ => rfl); (case hi_ => kernel_rfl)) | (refine load_cells_6 (ty := 76) (x := .tmp 7) (g := gb796) ?hlo_ ?hx_ Try.underlying76 ?hd_ ?hi_ s41 s42 s43 s44 s45 s46; (case hlo_ => rfl); (case hx_ => rfl); (case hd_ => rfl); (case hi_ => kernel_rfl)) | (refine load_cells_6 (ty := 76) (x := .tmp 9) (g := gb806) ?hlo_ ?hx_ Try.underlying76 ?hd_ ?hi_ s35 s36 s37 s38 s39 s40; (case hlo_ => rfl); (case hx_ => rfl); (case hd_ => rfl); (case hi_ => kernel_rfl)) | (go_simp; with_reducible rfl))
    rotate_left
    ·simp only [Act.put, List.setIfInBounds_toArray, List.set_cons_zero, List.set_cons_succ, i64_w, i32_w]
     rfl
    refine take_ (i := 10) (N := some 37) (v := ?_) (a' := ?_) #[true, true, true, true, true, true, true, true, true, false, true, false, false, false] rfl rfl (take_ofW HT_.out HW_.out (by kernel_rfl)) (fun _ _ _ h => h) (Or.inl ⟨by rfl, ?_⟩) hHeld ?_ ?_
    rotate_left
    ·rintro w' ⟨s0, s1, s2, s3, s4, s5, s6, s7, s8, s9, s10, s11, s12, s13, s14, s15, s16, s17, s18, s19, s20, s21, s22, s23, s24, s25, s26, s27, s28, s29, s30, s31, s32, s33, s34, s35, s36, s37, s38, s39, s40, s41, s42, s43, s44, s45, s46⟩
     (first | (refine load_cells_11 (ty := 24) (x := .tmp 4) (g := gb794) ?hlo_ ?hx_ Try.underlying24 ?hd_ ?hi_ s0 s1 s2 s3 s4 s5 s6 s7 s8 s9 s10; (case hlo_ => rfl); (case hx_ => rfl); (case hd_ => rfl); (case hi_ => kernel_rfl)) | (refine load_cells_24 (ty := 44) (x := .tmp 5) (g := gb795) ?hlo_ ?hx_ Try.underlying44 ?hd_ ?hi_ s11 s12 s13 s14 s15 s16 s17 s18 s19 s20 s21 s22 s23 s24 s25 s26 s27 s28 s29 s30 s31 s32 s33 s34; (case hlo_ => rfl); (case hx_ => rfl); (case hd_ => rfl); (case hi_ => kernel_rfl)) | (refine load_cells_6 (ty := 76) (x := .tmp 7) (g := gb796) ?hlo_ ?hx_ Try.underlying76 ?hd_ ?hi_ s41 s42 s43 s44 s45 s46; (case hlo_ => rfl); (case hx_ => rfl); (case hd_ => rfl); (case hi_ => kernel_rfl)) | (refine load_cells_6 (ty := 76) (x := .tmp 9) (g := gb806) ?hlo_ ?hx_ Try.underlying76 ?hd_ ?hi_ s35 s36 s37 s38 s39 s40; (case hlo_ => rfl); (case hx_ => rfl); (case hd_ => rfl); (case hi_ => kernel_rfl)) | (go_simp; with_reducible rfl))
    rotate_left
    ·simp only [Act.put, List.setIfInBounds_toArray, List.set_cons_zero, List.set_cons_succ, i64_w, i32_w]
     rfl
    refine one_ (i := 9) (N := some 36) #[true, true, true, true, true, true, true, true, true, true, true, false, false, false] rfl rfl (one_of HT_.out (by kernel_rfl)) (by decide) (fun K hK => ?_)
    refine goes_ Try.func70 (by kernel_rfl) rfl #[.agg #[.string t798, .int .i64 t799, .string t800, .int .i64 t801, .int .i64 t802, .string t803]] (by rfl) rfl rfl (by (try simp only [List.map_toArray, List.map_cons, List.map_nil]); first | done | rfl | (simp only [List.length_drop, List.length_take]; rfl)) ?_
    with_reducible refine (bellwetherref10_Strip.calls t798 t799 t800 t801 t802 t803 t813 t814 t815 t816 t817 t818 _ A32.out).mono ?_
    rintro e w36 ⟨rfl, hb⟩
    refine ⟨_, rfl, ?_⟩
    have n0_ := Aside0.mk (blk_below BK794.out hb)
    have n1_ := Aside0.mk (blk_below BK795.out hb)
    have n2_ := Aside0.mk (blk_below BK796.out hb)
    have n3_ := Aside0.mk (blk_below BK806.out hb)
    have n4_ := Aside0.mk (below_step HB.out hb)
    clear BK794
    clear BK795
    clear BK796
    clear BK806
    clear HB
    have BK794 := n0_
    have BK795 := n1_
    have BK796 := n2_
    have BK806 := n3_
    have HB := n4_
    clear n0_ n1_ n2_ n3_ n4_
    (try clear hb)
    (try clear hb2)
    (try clear hk)
    (try clear hi)
    refine hK.out _ _ (and_11 BK794.out (and_24 BK795.out (and_6 BK806.out (cells_6 BK796.out)))) (fun hHeld => ?_)
    clear hK K
    refine norm_ (a' := ?_) ?_ ?_
    rotate_left
    ·show Act.put _ (some 36) _ = _
     simp only [Act.put, List.setIfInBounds_toArray, List.set_cons_zero, List.set_cons_succ, i64_w, i32_w]
     rfl
    refine one_ (i := 11) (N := some 38) #[true, true, true, true, true, true, true, true, true, true, true, true, false, false] rfl rfl (one_of HT_.out (by kernel_rfl)) (by decide) (fun K hK => ?_)
    refine goes_ Try.func70 (by kernel_rfl) rfl #[.agg #[.string a3_0, .int .i64 a3_1, .string a3_2, .int .i64 a3_3, .int .i64 a3_4, .string a3_5]] (by rfl) rfl rfl (by (try simp only [List.map_toArray, List.map_cons, List.map_nil]); first | done | rfl | (simp only [List.length_drop, List.length_take]; rfl)) ?_
    with_reducible refine (bellwetherref10_Strip.calls a3_0 a3_1 a3_2 a3_3 a3_4 a3_5 t819 t820 t821 t822 t823 t824 _ A33.out).mono ?_
    rintro e w37 ⟨rfl, hb⟩
    refine ⟨_, rfl, ?_⟩
    have n0_ := Aside0.mk (blk_below BK794.out hb)
    have n1_ := Aside0.mk (blk_below BK795.out hb)
    have n2_ := Aside0.mk (blk_below BK796.out hb)
    have n3_ := Aside0.mk (blk_below BK806.out hb)
    have n4_ := Aside0.mk (below_step HB.out hb)
    clear BK794
    clear BK795
    clear BK796
    clear BK806
    clear HB
    have BK794 := n0_
    have BK795 := n1_
    have BK796 := n2_
    have BK806 := n3_
    have HB := n4_
    clear n0_ n1_ n2_ n3_ n4_
    (try clear hb)
    (try clear hb2)
    (try clear hk)
    (try clear hi)
    refine hK.out _ _ (and_11 BK794.out (and_24 BK795.out (and_6 BK806.out (cells_6 BK796.out)))) (fun hHeld => ?_)
    clear hK K
    refine norm_ (a' := ?_) ?_ ?_
    rotate_left
    ·show Act.put _ (some 38) _ = _
     simp only [Act.put, List.setIfInBounds_toArray, List.set_cons_zero, List.set_cons_succ, i64_w, i32_w]
     rfl
    refine pure_ (i := 12) (N := some 39) (v := ?_) (a' := ?_) #[true, true, true, true, true, true, true, true, true, true, true, true, true, false] rfl rfl (any_of HT_.out (by kernel_rfl)) (fun _ _ _ h => h) (Or.inl ⟨by rfl, ?_⟩) ?_ ?_
    rotate_left
    ·intro w'
     go_simp
     with_reducible rfl
    rotate_left
    ·simp only [Act.put, List.setIfInBounds_toArray, List.set_cons_zero, List.set_cons_succ, i64_w, i32_w]
     rfl
    refine pure_ (i := 13) (N := some 40) (v := ?_) (a' := ?_) #[true, true, true, true, true, true, true, true, true, true, true, true, true, true] rfl rfl (any_of HT_.out (by kernel_rfl)) (fun _ _ _ h => h) (Or.inl ⟨by rfl, ?_⟩) ?_ ?_
    rotate_left
    ·intro w'
     go_simp
     with_reducible rfl
    rotate_left
    ·simp only [Act.put, List.setIfInBounds_toArray, List.set_cons_zero, List.set_cons_succ, i64_w, i32_w]
     rfl
    refine done_ (done_of HT_.out (by kernel_rfl)) ?_
    try go_wp2
    go_meet
    case rel => exact ⟨_, ((!(t813.toList == t819.toList) || (!(t814 == t820) || (!(t815.toList == t821.toList) || (!(t816 == t822) || (!(t817 == t823) || (!(t818.toList == t824.toList)))))))), (by first | rfl | (simp; done) | (simp [*]; done)), H', ⟨by first | omega | exact Nat.le_refl _⟩, ⟨by (with_reducible repeat (first | refine blk_drewN ?_ _ | refine blk_drew ?_ | refine blk_alloc ?_ _)); exact BK794.out⟩, ⟨by (with_reducible repeat (first | refine blk_drewN ?_ _ | refine blk_drew ?_ | refine blk_alloc ?_ _)); exact BK795.out⟩, ⟨by (with_reducible repeat (first | refine blk_drewN ?_ _ | refine blk_drew ?_ | refine blk_alloc ?_ _)); exact BK796.out⟩, ⟨by (with_reducible repeat (first | refine blk_drewN ?_ _ | refine blk_drew ?_ | refine blk_alloc ?_ _)); exact BK806.out⟩, ⟨by repeat (first | (with_reducible first | exact HB.out | apply below_alloc | apply pw_below_drewN | apply below_drew1 | refine below_set ?_ GE794.out | refine below_set ?_ GE795.out | refine below_set ?_ GE796.out | refine below_set ?_ GE806.out) | exact HB.out)⟩⟩
  case rest =>
   clear HC15
   try clear c1
   try clear c2
   try clear p2
   try clear c4
   try clear c5
   try clear c5b0
   try clear c5b1
   try clear c6
   try clear c7
   try clear c10
   try clear c11
   try clear c17
   try clear c19
   try clear c20
   try clear c22
   try clear c29
   try clear c29b0
   try clear hcz12_0
   try clear hcz12_1
   try clear hcz12_10
   try clear hcz12_11
   try clear hcz12_12
   try clear hcz12_13
   try clear hcz12_14
   try clear hcz12_15
   try clear hcz12_16
   try clear hcz12_17
   try clear hcz12_18
   try clear hcz12_19
   try clear hcz12_2
   try clear hcz12_20
   try clear hcz12_21
   try clear hcz12_22
   try clear hcz12_23
   try clear hcz12_3
   try clear hcz12_4
   try clear hcz12_5
   try clear hcz12_6
   try clear hcz12_7
   try clear hcz12_8
   try clear hcz12_9
   try clear hcz21_0
   try clear hcz21_1
   try clear hcz21_10
   try clear hcz21_11
   try clear hcz21_12
   try clear hcz21_13
   try clear hcz21_14
   try clear hcz21_15
   try clear hcz21_16
   try clear hcz21_17
   try clear hcz21_18
   try clear hcz21_19
   try clear hcz21_2
   try clear hcz21_20
   try clear hcz21_21
   try clear hcz21_22
   try clear hcz21_23
   try clear hcz21_3
   try clear hcz21_4
   try clear hcz21_5
   try clear hcz21_6
   try clear hcz21_7
   try clear hcz21_8
   try clear hcz21_9
   try clear hcz23_0
   try clear hcz23_1
   try clear hcz23_10
   try clear hcz23_2
   try clear hcz23_3
   try clear hcz23_4
   try clear hcz23_5
   try clear hcz23_6
   try clear hcz23_7
   try clear hcz23_8
   try clear hcz23_9
   try clear hcz24_0
   try clear hcz24_1
   try clear hcz24_2
   try clear hcz24_3
   try clear hcz24_4
   try clear hcz24_5
   try clear hfz12_0
   try clear hfz12_1
   try clear hfz12_10
   try clear hfz12_11
   try clear hfz12_12
   try clear hfz12_13
   try clear hfz12_14
   try clear hfz12_15
   try clear hfz12_16
   try clear hfz12_17
   try clear hfz12_18
   try clear hfz12_19
   try clear hfz12_2
   try clear hfz12_20
   try clear hfz12_21
   try clear hfz12_22
   try clear hfz12_23
   try clear hfz12_3
   try clear hfz12_4
   try clear hfz12_5
   try clear hfz12_6
   try clear hfz12_7
   try clear hfz12_8
   try clear hfz12_9
   try clear hfz21_0
   try clear hfz21_1
   try clear hfz21_10
   try clear hfz21_11
   try clear hfz21_12
   try clear hfz21_13
   try clear hfz21_14
   try clear hfz21_15
   try clear hfz21_16
   try clear hfz21_17
   try clear hfz21_18
   try clear hfz21_19
   try clear hfz21_2
   try clear hfz21_20
   try clear hfz21_21
   try clear hfz21_22
   try clear hfz21_23
   try clear hfz21_3
   try clear hfz21_4
   try clear hfz21_5
   try clear hfz21_6
   try clear hfz21_7
   try clear hfz21_8
   try clear hfz21_9
   try clear hfz23_0
   try clear hfz23_1
   try clear hfz23_10
   try clear hfz23_2
   try clear hfz23_3
   try clear hfz23_4
   try clear hfz23_5
   try clear hfz23_6
   try clear hfz23_7
   try clear hfz23_8
   try clear hfz23_9
   try clear hfz24_0
   try clear hfz24_1
   try clear hfz24_2
   try clear hfz24_3
   try clear hfz24_4
   try clear hfz24_5
   obtain ⟨kq, x40_14, rfl, HA, HJ14, BK794, BK795, BK796, BK806, HB⟩ := hcut
   cases kq with
   | zero => exact absurd HA.out (by simp [bellwetherlaw23_GateGuards.j0])
   | succ kj14 =>
    have H := HA.out
    clear HA
    simp only [bellwetherlaw23_GateGuards.j0] at H
    by_cases c38 : x40_14 = true
    ·subst c38
     have H1 : (none) = some r := by rw [if_pos rfl] at H; exact H
     clear H
     have H := H1
     clear H1
     exact absurd H (by simp)
    ·replace c38 := Bool.eq_false_iff.mpr c38
     subst c38
     have H1 : ((gate_Guard.f kj14 a0_0 a0_1 a0_2 a0_3 a0_4 a0_5 a0_6 a0_7 a0_8 a0_9 l0_10 a1_0 a1_1 a1_2 a1_3 a1_4 a1_5 a1_6 a1_7 a1_8 a1_9 a1_10 a1_11 a1_12 a1_13 a1_14 l1_15 l1_16 l1_17 a1_18 a1_19 a1_20 a1_21 a1_22 a1_23 a2 a3_0 a3_1 a3_2 a3_3 a3_4 a3_5).bind fun bt825 => (if bt825.2.2.2.1 = 0 then (bellwetherlaw23_GateGuards.j1 kj14 a2 t804 t805 false a0_0 a0_1 a0_2 a0_3 a0_4 a0_5 a0_6 a0_7 a0_8 a0_9 l0_10 a1_0 a1_1 a1_2 a1_3 a1_4 a1_5 a1_6 a1_7 a1_8 a1_9 a1_10 a1_11 a1_12 a1_13 a1_14 l1_15 l1_16 l1_17 a1_18 a1_19 a1_20 a1_21 a1_22 a1_23 t798 t799 t800 t801 t802 t803) else (if (!(bt825.1.toList == a3_0.toList) || (!(bt825.2.1 == a3_1) || (!(bt825.2.2.1.toList == a3_2.toList) || (!(bt825.2.2.2.1 == a3_3) || (!(bt825.2.2.2.2.1 == a3_4) || (!(bt825.2.2.2.2.2.toList == a3_5.toList))))))) = true then (bellwetherlaw23_GateGuards.j1 kj14 a2 t804 t805 true a0_0 a0_1 a0_2 a0_3 a0_4 a0_5 a0_6 a0_7 a0_8 a0_9 l0_10 a1_0 a1_1 a1_2 a1_3 a1_4 a1_5 a1_6 a1_7 a1_8 a1_9 a1_10 a1_11 a1_12 a1_13 a1_14 l1_15 l1_16 l1_17 a1_18 a1_19 a1_20 a1_21 a1_22 a1_23 t798 t799 t800 t801 t802 t803) else ((bellwetherref21_Owner.f kj14 a0_0 a0_1 a0_2 a0_3 a0_4 a0_5 a0_6 a0_7 a0_8 a0_9 l0_10 (wrap64 (bt825.2.2.2.1 - 1))).bind fun t832 => (if t832 = a2 then (if bt825.2.2.2.2.1 = a1_7 then (bellwetherlaw23_GateGuards.j1 kj14 a2 t804 t805 (bt825.2.2.2.2.2.toList != a1_14.toList) a0_0 a0_1 a0_2 a0_3 a0_4 a0_5 a0_6 a0_7 a0_8 a0_9 l0_10 a1_0 a1_1 a1_2 a1_3 a1_4 a1_5 a1_6 a1_7 a1_8 a1_9 a1_10 a1_11 a1_12 a1_13 a1_14 l1_15 l1_16 l1_17 a1_18 a1_19 a1_20 a1_21 a1_22 a1_23 t798 t799 t800 t801 t802 t803) else (bellwetherlaw23_GateGuards.j1 kj14 a2 t804 t805 true a0_0 a0_1 a0_2 a0_3 a0_4 a0_5 a0_6 a0_7 a0_8 a0_9 l0_10 a1_0 a1_1 a1_2 a1_3 a1_4 a1_5 a1_6 a1_7 a1_8 a1_9 a1_10 a1_11 a1_12 a1_13 a1_14 l1_15 l1_16 l1_17 a1_18 a1_19 a1_20 a1_21 a1_22 a1_23 t798 t799 t800 t801 t802 t803)) else (bellwetherlaw23_GateGuards.j1 kj14 a2 t804 t805 true a0_0 a0_1 a0_2 a0_3 a0_4 a0_5 a0_6 a0_7 a0_8 a0_9 l0_10 a1_0 a1_1 a1_2 a1_3 a1_4 a1_5 a1_6 a1_7 a1_8 a1_9 a1_10 a1_11 a1_12 a1_13 a1_14 l1_15 l1_16 l1_17 a1_18 a1_19 a1_20 a1_21 a1_22 a1_23 t798 t799 t800 t801 t802 t803)))))) = some r := by rw [if_neg (show ¬ (false = true) by decide)] at H; exact H
     clear H
     have H := H1
     clear H1
     replace H := Option.bind_eq_some_iff.mp H
     obtain ⟨⟨t825, t826, t827, t828, t829, t830⟩, A390, H⟩ := H
     replace H : (if t828 = 0 then (bellwetherlaw23_GateGuards.j1 kj14 a2 t804 t805 false a0_0 a0_1 a0_2 a0_3 a0_4 a0_5 a0_6 a0_7 a0_8 a0_9 l0_10 a1_0 a1_1 a1_2 a1_3 a1_4 a1_5 a1_6 a1_7 a1_8 a1_9 a1_10 a1_11 a1_12 a1_13 a1_14 l1_15 l1_16 l1_17 a1_18 a1_19 a1_20 a1_21 a1_22 a1_23 t798 t799 t800 t801 t802 t803) else (if (!(t825.toList == a3_0.toList) || (!(t826 == a3_1) || (!(t827.toList == a3_2.toList) || (!(t828 == a3_3) || (!(t829 == a3_4) || (!(t830.toList == a3_5.toList))))))) = true then (bellwetherlaw23_GateGuards.j1 kj14 a2 t804 t805 true a0_0 a0_1 a0_2 a0_3 a0_4 a0_5 a0_6 a0_7 a0_8 a0_9 l0_10 a1_0 a1_1 a1_2 a1_3 a1_4 a1_5 a1_6 a1_7 a1_8 a1_9 a1_10 a1_11 a1_12 a1_13 a1_14 l1_15 l1_16 l1_17 a1_18 a1_19 a1_20 a1_21 a1_22 a1_23 t798 t799 t800 t801 t802 t803) else ((bellwetherref21_Owner.f kj14 a0_0 a0_1 a0_2 a0_3 a0_4 a0_5 a0_6 a0_7 a0_8 a0_9 l0_10 (wrap64 (t828 - 1))).bind fun t832 => (if t832 = a2 then (if t829 = a1_7 then (bellwetherlaw23_GateGuards.j1 kj14 a2 t804 t805 (t830.toList != a1_14.toList) a0_0 a0_1 a0_2 a0_3 a0_4 a0_5 a0_6 a0_7 a0_8 a0_9 l0_10 a1_0 a1_1 a1_2 a1_3 a1_4 a1_5 a1_6 a1_7 a1_8 a1_9 a1_10 a1_11 a1_12 a1_13 a1_14 l1_15 l1_16 l1_17 a1_18 a1_19 a1_20 a1_21 a1_22 a1_23 t798 t799 t800 t801 t802 t803) else (bellwetherlaw23_GateGuards.j1 kj14 a2 t804 t805 true a0_0 a0_1 a0_2 a0_3 a0_4 a0_5 a0_6 a0_7 a0_8 a0_9 l0_10 a1_0 a1_1 a1_2 a1_3 a1_4 a1_5 a1_6 a1_7 a1_8 a1_9 a1_10 a1_11 a1_12 a1_13 a1_14 l1_15 l1_16 l1_17 a1_18 a1_19 a1_20 a1_21 a1_22 a1_23 t798 t799 t800 t801 t802 t803)) else (bellwetherlaw23_GateGuards.j1 kj14 a2 t804 t805 true a0_0 a0_1 a0_2 a0_3 a0_4 a0_5 a0_6 a0_7 a0_8 a0_9 l0_10 a1_0 a1_1 a1_2 a1_3 a1_4 a1_5 a1_6 a1_7 a1_8 a1_9 a1_10 a1_11 a1_12 a1_13 a1_14 l1_15 l1_16 l1_17 a1_18 a1_19 a1_20 a1_21 a1_22 a1_23 t798 t799 t800 t801 t802 t803))))) = some r := H
     have A39 := Aside0.mk A390
     clear A390
     have HC40 := Aside0.mk H
     clear H
     have hnb41 := NB794_795.out
     have hnc41 := NB795_794.out
     have hnb42 := NB794_796.out
     have hnc42 := NB796_794.out
     have hnb43 := NB794_806.out
     have hnc43 := NB806_794.out
     obtain ⟨hcz44_0, hcz44_1, hcz44_2, hcz44_3, hcz44_4, hcz44_5, hcz44_6, hcz44_7, hcz44_8, hcz44_9, hcz44_10⟩ := cells_11 BK794.out
     obtain ⟨hfz44_0, hfz44_1, hfz44_2, hfz44_3, hfz44_4, hfz44_5, hfz44_6, hfz44_7, hfz44_8, hfz44_9, hfz44_10⟩ := frozen_11 BK794.out
     have hnb45 := NB795_796.out
     have hnc45 := NB796_795.out
     have hnb46 := NB795_806.out
     have hnc46 := NB806_795.out
     obtain ⟨hcz47_0, hcz47_1, hcz47_2, hcz47_3, hcz47_4, hcz47_5, hcz47_6, hcz47_7, hcz47_8, hcz47_9, hcz47_10, hcz47_11, hcz47_12, hcz47_13, hcz47_14, hcz47_15, hcz47_16, hcz47_17, hcz47_18, hcz47_19, hcz47_20, hcz47_21, hcz47_22, hcz47_23⟩ := cells_24 BK795.out
     obtain ⟨hfz47_0, hfz47_1, hfz47_2, hfz47_3, hfz47_4, hfz47_5, hfz47_6, hfz47_7, hfz47_8, hfz47_9, hfz47_10, hfz47_11, hfz47_12, hfz47_13, hfz47_14, hfz47_15, hfz47_16, hfz47_17, hfz47_18, hfz47_19, hfz47_20, hfz47_21, hfz47_22, hfz47_23⟩ := frozen_24 BK795.out
     have hnb48 := NB796_806.out
     have hnc48 := NB806_796.out
     obtain ⟨hcz49_0, hcz49_1, hcz49_2, hcz49_3, hcz49_4, hcz49_5⟩ := cells_6 BK796.out
     obtain ⟨hfz49_0, hfz49_1, hfz49_2, hfz49_3, hfz49_4, hfz49_5⟩ := frozen_6 BK796.out
     go_upto_region 7 with (first | ((with_reducible refine gate_load (t := 24) (x := .tmp 4) rfl ?_); refine load_row_g (cs := ?_) ?hw 24 (.tmp 4) ?h2 gb794 ?hx 24 (fr := (0, 0)) (d := ?_) ?hg ?h3 ?h4 ?hi ?_; (case hw => first | (with_reducible rfl) | (go_simp; done) | rfl); (case h2 => rfl); (case hx => first | (with_reducible rfl) | (go_simp; done) | rfl); (case hg => (with_reducible repeat (first | refine blk_drewN ?_ _ | refine blk_drew ?_ | refine blk_alloc ?_ _)); with_reducible exact BK794.out); (case h3 => exact Try.underlying24); (case h4 => rfl); (case hi => kernel_rfl)) | ((with_reducible refine gate_load (t := 44) (x := .tmp 5) rfl ?_); refine load_row_g (cs := ?_) ?hw 44 (.tmp 5) ?h2 gb795 ?hx 44 (fr := (0, 0)) (d := ?_) ?hg ?h3 ?h4 ?hi ?_; (case hw => first | (with_reducible rfl) | (go_simp; done) | rfl); (case h2 => rfl); (case hx => first | (with_reducible rfl) | (go_simp; done) | rfl); (case hg => (with_reducible repeat (first | refine blk_drewN ?_ _ | refine blk_drew ?_ | refine blk_alloc ?_ _)); with_reducible exact BK795.out); (case h3 => exact Try.underlying44); (case h4 => rfl); (case hi => kernel_rfl)) | ((with_reducible refine gate_load (t := 76) (x := .tmp 7) rfl ?_); refine load_row_g (cs := ?_) ?hw 76 (.tmp 7) ?h2 gb796 ?hx 76 (fr := (0, 0)) (d := ?_) ?hg ?h3 ?h4 ?hi ?_; (case hw => first | (with_reducible rfl) | (go_simp; done) | rfl); (case h2 => rfl); (case hx => first | (with_reducible rfl) | (go_simp; done) | rfl); (case hg => (with_reducible repeat (first | refine blk_drewN ?_ _ | refine blk_drew ?_ | refine blk_alloc ?_ _)); with_reducible exact BK796.out); (case h3 => exact Try.underlying76); (case h4 => rfl); (case hi => kernel_rfl)) | ((with_reducible refine gate_load (t := 76) (x := .tmp 9) rfl ?_); refine load_row_g (cs := ?_) ?hw 76 (.tmp 9) ?h2 gb806 ?hx 76 (fr := (0, 0)) (d := ?_) ?hg ?h3 ?h4 ?hi ?_; (case hw => first | (with_reducible rfl) | (go_simp; done) | rfl); (case h2 => rfl); (case hx => first | (with_reducible rfl) | (go_simp; done) | rfl); (case hg => (with_reducible repeat (first | refine blk_drewN ?_ _ | refine blk_drew ?_ | refine blk_alloc ?_ _)); with_reducible exact BK806.out); (case h3 => exact Try.underlying76); (case h4 => rfl); (case hi => kernel_rfl)) | ((with_reducible refine gate_load (t := 76) (x := .tmp 12) rfl ?_); refine load_row_g (cs := ?_) ?hw 76 (.tmp 12) ?h2 gb831 ?hx 76 (fr := (0, 0)) (d := ?_) ?hg ?h3 ?h4 ?hi ?_; (case hw => first | (with_reducible rfl) | (go_simp; done) | rfl); (case h2 => rfl); (case hx => first | (with_reducible rfl) | (go_simp; done) | rfl); (case hg => (with_reducible repeat (first | refine blk_drewN ?_ _ | refine blk_drew ?_ | refine blk_alloc ?_ _)); with_reducible exact BK831.out); (case h3 => exact Try.underlying76); (case h4 => rfl); (case hi => kernel_rfl)) | ((with_reducible refine gate_callee (f := 68) rfl ?_); refine goesL_ (some 45) rfl rfl Try.func68 (by kernel_rfl) rfl #[.agg #[.int .i64 a0_0, .int .i64 a0_1, .int .i64 a0_2, .int .i64 a0_3, .int .i64 a0_4, .int .i64 a0_5, .int .i64 a0_6, .int .i64 a0_7, .int .i64 a0_8, .int .i64 a0_9, .slice A0_10 l0_10.length c0_10], .agg #[.int .i64 a1_0, .int .i64 a1_1, .int .i64 a1_2, .string a1_3, .int .i64 a1_4, .string a1_5, .string a1_6, .int .i64 a1_7, .int .i64 a1_8, .string a1_9, .string a1_10, .string a1_11, .string a1_12, .string a1_13, .string a1_14, .slice A1_15 l1_15.length c1_15, .slice A1_16 l1_16.length c1_16, .slice A1_17 l1_17.length c1_17, .int .i64 a1_18, .int .i64 a1_19, .int .i64 a1_20, .int .i64 a1_21, .int .i64 a1_22, .int .i64 a1_23], .int .i64 a2, .agg #[.string a3_0, .int .i64 a3_1, .string a3_2, .int .i64 a3_3, .int .i64 a3_4, .string a3_5]] rfl (by (try simp only [List.map_toArray, List.map_cons, List.map_nil]); first | done | rfl | (simp only [List.length_drop, List.length_take]; rfl)) ?_; (with_reducible refine (gate_Guard.calls kj14 a0_0 a0_1 a0_2 a0_3 a0_4 a0_5 a0_6 a0_7 a0_8 a0_9 _ _ l0_10 a1_0 a1_1 a1_2 a1_3 a1_4 a1_5 a1_6 a1_7 a1_8 a1_9 a1_10 a1_11 a1_12 a1_13 a1_14 _ _ l1_15 _ _ l1_16 _ _ l1_17 a1_18 a1_19 a1_20 a1_21 a1_22 a1_23 a2 a3_0 a3_1 a3_2 a3_3 a3_4 a3_5 t825 t826 t827 t828 t829 t830 _ ?side1 ?side2 ?side3 ?side4 ?side5 ?side6 ?side7 ?side8 A39.out).mono ?_); (case side1 => exact (Kd.C_below HR0_10.out HB.out)); (case side2 => exact HC0_10.out); (case side3 => exact (Kd.C_below HR1_15.out HB.out)); (case side4 => exact HC1_15.out); (case side5 => exact (Kd.C_below HR1_16.out HB.out)); (case side6 => exact HC1_16.out); (case side7 => exact (Kd.C_below HR1_17.out HB.out)); (case side8 => exact HC1_17.out); rintro e w50 ⟨rfl, hb⟩; refine ⟨_, rfl, ?_⟩; have n0_ := Aside0.mk (blk_below BK794.out hb); have n1_ := Aside0.mk (blk_below BK795.out hb); have n2_ := Aside0.mk (blk_below BK796.out hb); have n3_ := Aside0.mk (blk_below BK806.out hb); have n4_ := Aside0.mk (below_step HB.out hb); clear BK794; clear BK795; clear BK796; clear BK806; clear HB; have BK794 := n0_; have BK795 := n1_; have BK796 := n2_; have BK806 := n3_; have HB := n4_; clear n0_ n1_ n2_ n3_ n4_; (try clear hb); (try clear hb2); (try clear hk); (try clear hi)) | ((with_reducible refine gate_dst (N := 12) rfl ?_); (try (refine gate_guard (by rfl) ?_; dsimp only)); refine box_event ?hg (N := 12) ?hd (cs := #[.string (⟨#[]⟩ : ByteArray), .int .i64 0, .string (⟨#[]⟩ : ByteArray), .int .i64 0, .int .i64 0, .string (⟨#[]⟩ : ByteArray)]) (t := 76) ?hr ?_; (case hd => rfl); (case hg => rfl); (case hr => first | (go_simp; done) | (go_simp; rfl)); intro gb831 hg w51 hbox hb; have n0_ := Aside0.mk (blk_below BK794.out hb); have n1_ := Aside0.mk (blk_below BK795.out hb); have n2_ := Aside0.mk (blk_below BK796.out hb); have n3_ := Aside0.mk (blk_below BK806.out hb); have n4_ := Aside0.mk (below_step HB.out hb); have n5_ := Aside0.mk (hbox); have n6_ := Aside0.mk ((by rw [hg]; exact (below_size HB.out) : w.heap.size ≤ gb831)); have n7_ := Aside0.mk ((by rw [hg]; exact (below_size HB.out) : w.heap.size ≤ gb831)); have n8_ := Aside0.mk ((by rw [hg]; exact Nat.ne_of_lt (blk_lt BK794.out) : gb794 ≠ gb831)); have n9_ := Aside0.mk ((by rw [hg]; exact Nat.ne_of_gt (blk_lt BK794.out) : gb831 ≠ gb794)); have n10_ := Aside0.mk ((by rw [hg]; exact Nat.ne_of_lt (blk_lt BK795.out) : gb795 ≠ gb831)); have n11_ := Aside0.mk ((by rw [hg]; exact Nat.ne_of_gt (blk_lt BK795.out) : gb831 ≠ gb795)); have n12_ := Aside0.mk ((by rw [hg]; exact Nat.ne_of_lt (blk_lt BK796.out) : gb796 ≠ gb831)); have n13_ := Aside0.mk ((by rw [hg]; exact Nat.ne_of_gt (blk_lt BK796.out) : gb831 ≠ gb796)); have n14_ := Aside0.mk ((by rw [hg]; exact Nat.ne_of_lt (blk_lt BK806.out) : gb806 ≠ gb831)); have n15_ := Aside0.mk ((by rw [hg]; exact Nat.ne_of_gt (blk_lt BK806.out) : gb831 ≠ gb806)); clear BK794; clear BK795; clear BK796; clear BK806; clear HB; have BK794 := n0_; have BK795 := n1_; have BK796 := n2_; have BK806 := n3_; have HB := n4_; have BK831 := n5_; have GW831 := n6_; have GE831 := n7_; have NB794_831 := n8_; have NB831_794 := n9_; have NB795_831 := n10_; have NB831_795 := n11_; have NB796_831 := n12_; have NB831_796 := n13_; have NB806_831 := n14_; have NB831_806 := n15_; clear n0_ n1_ n2_ n3_ n4_ n5_ n6_ n7_ n8_ n9_ n10_ n11_ n12_ n13_ n14_ n15_; clear hb hbox hg) | ((with_reducible refine gate_store (t := 76) (p := 12) rfl ?_); refine row_store_event (t := 76) (p := 12) (v := ?vo_w52) ?hgd ?ho ?hn gb831 #[.string t825, .int .i64 t826, .string t827, .int .i64 t828, .int .i64 t829, .string t830] ?hx ?hy 76 #[.string (⟨#[]⟩ : ByteArray), .int .i64 0, .string (⟨#[]⟩ : ByteArray), .int .i64 0, .int .i64 0, .string (⟨#[]⟩ : ByteArray)] ?hg ?hi ?hold ?h1 ?_; (case hgd => rfl); (case ho => rfl); (case hn => rfl); (case hx => rfl); (case hy => rfl); (case hg => exact (by (with_reducible repeat (first | refine blk_drewN ?_ _ | refine blk_drew ?_ | refine blk_alloc ?_ _)); exact BK831.out)); (case hi => kernel_rfl); (case hold => rfl); (case h1 => (first | kernel_rfl | simp [Value.oneCell'])); intro w52 hw; have n0_ : Aside0 (w52.heap[gb794]? = some (.cells #[.int .i64 a0_0, .int .i64 a0_1, .int .i64 a0_2, .int .i64 a0_3, .int .i64 a0_4, .int .i64 a0_5, .int .i64 a0_6, .int .i64 a0_7, .int .i64 a0_8, .int .i64 a0_9, .slice A0_10 l0_10.length c0_10] 24 (0, 0))) := ⟨(by rw [hw]; exact (by (with_reducible repeat (first | refine blk_drewN ?_ _ | refine blk_drew ?_ | refine blk_alloc ?_ _)); refine blk_farc ?_ NB794_831.out; (with_reducible repeat (first | refine blk_drewN ?_ _ | refine blk_drew ?_ | refine blk_alloc ?_ _)); exact BK794.out))⟩; have n1_ : Aside0 (w52.heap[gb795]? = some (.cells #[.int .i64 a1_0, .int .i64 a1_1, .int .i64 a1_2, .string a1_3, .int .i64 a1_4, .string a1_5, .string a1_6, .int .i64 a1_7, .int .i64 a1_8, .string a1_9, .string a1_10, .string a1_11, .string a1_12, .string a1_13, .string a1_14, .slice A1_15 l1_15.length c1_15, .slice A1_16 l1_16.length c1_16, .slice A1_17 l1_17.length c1_17, .int .i64 a1_18, .int .i64 a1_19, .int .i64 a1_20, .int .i64 a1_21, .int .i64 a1_22, .int .i64 a1_23] 44 (0, 0))) := ⟨(by rw [hw]; exact (by (with_reducible repeat (first | refine blk_drewN ?_ _ | refine blk_drew ?_ | refine blk_alloc ?_ _)); refine blk_farc ?_ NB795_831.out; (with_reducible repeat (first | refine blk_drewN ?_ _ | refine blk_drew ?_ | refine blk_alloc ?_ _)); exact BK795.out))⟩; have n2_ : Aside0 (w52.heap[gb796]? = some (.cells #[.string a3_0, .int .i64 a3_1, .string a3_2, .int .i64 a3_3, .int .i64 a3_4, .string a3_5] 76 (0, 0))) := ⟨(by rw [hw]; exact (by (with_reducible repeat (first | refine blk_drewN ?_ _ | refine blk_drew ?_ | refine blk_alloc ?_ _)); refine blk_farc ?_ NB796_831.out; (with_reducible repeat (first | refine blk_drewN ?_ _ | refine blk_drew ?_ | refine blk_alloc ?_ _)); exact BK796.out))⟩; have n3_ : Aside0 (w52.heap[gb806]? = some (.cells #[.string t798, .int .i64 t799, .string t800, .int .i64 t801, .int .i64 t802, .string t803] 76 (0, 0))) := ⟨(by rw [hw]; exact (by (with_reducible repeat (first | refine blk_drewN ?_ _ | refine blk_drew ?_ | refine blk_alloc ?_ _)); refine blk_farc ?_ NB806_831.out; (with_reducible repeat (first | refine blk_drewN ?_ _ | refine blk_drew ?_ | refine blk_alloc ?_ _)); exact BK806.out))⟩; have n4_ : Aside0 (w52.heap[gb831]? = some (.cells #[.string t825, .int .i64 t826, .string t827, .int .i64 t828, .int .i64 t829, .string t830] 76 (0, 0))) := ⟨(by rw [hw]; exact (by (with_reducible repeat (first | refine blk_drewN ?_ _ | refine blk_drew ?_ | refine blk_alloc ?_ _)); refine setRow_heap _ _ #[.string (⟨#[]⟩ : ByteArray), .int .i64 0, .string (⟨#[]⟩ : ByteArray), .int .i64 0, .int .i64 0, .string (⟨#[]⟩ : ByteArray)] _ 76 (0, 0) ?_; (with_reducible repeat (first | refine blk_drewN ?_ _ | refine blk_drew ?_ | refine blk_alloc ?_ _)); exact BK831.out))⟩; have n5_ : Aside0 (Below w.heap.size w w52) := ⟨(by rw [hw]; exact (by repeat (first | (with_reducible first | exact HB.out | refine below_setc ?_ GE831.out | apply below_alloc | apply pw_below_drewN | apply below_drew1 | refine below_set ?_ GE794.out | refine below_set ?_ GE795.out | refine below_set ?_ GE796.out | refine below_set ?_ GE806.out | refine below_set ?_ GE831.out) | exact HB.out)))⟩; clear hw; clear BK794; clear BK795; clear BK796; clear BK806; clear BK831; clear HB; have BK794 := n0_; have BK795 := n1_; have BK796 := n2_; have BK806 := n3_; have BK831 := n4_; have HB := n5_; clear n0_ n1_ n2_ n3_ n4_ n5_))
     (try simp only [Act.put, List.setIfInBounds_toArray, List.set_cons_zero, List.set_cons_succ])
     go_cut [76] (fun v76 wc => ∃ (kq : Nat) (x76_39 : Bool), v76 = .bool x76_39 ∧ Aside0 (bellwetherlaw23_GateGuards.j1 kq a2 t804 t805 x76_39 a0_0 a0_1 a0_2 a0_3 a0_4 a0_5 a0_6 a0_7 a0_8 a0_9 l0_10 a1_0 a1_1 a1_2 a1_3 a1_4 a1_5 a1_6 a1_7 a1_8 a1_9 a1_10 a1_11 a1_12 a1_13 a1_14 l1_15 l1_16 l1_17 a1_18 a1_19 a1_20 a1_21 a1_22 a1_23 t798 t799 t800 t801 t802 t803 = some r) ∧ Aside0 (kq ≤ kj14) ∧ Aside0 (wc.heap[gb794]? = some (.cells #[.int .i64 a0_0, .int .i64 a0_1, .int .i64 a0_2, .int .i64 a0_3, .int .i64 a0_4, .int .i64 a0_5, .int .i64 a0_6, .int .i64 a0_7, .int .i64 a0_8, .int .i64 a0_9, (.slice A0_10 l0_10.length c0_10)] 24 (0, 0))) ∧ Aside0 (wc.heap[gb795]? = some (.cells #[.int .i64 a1_0, .int .i64 a1_1, .int .i64 a1_2, .string a1_3, .int .i64 a1_4, .string a1_5, .string a1_6, .int .i64 a1_7, .int .i64 a1_8, .string a1_9, .string a1_10, .string a1_11, .string a1_12, .string a1_13, .string a1_14, (.slice A1_15 l1_15.length c1_15), (.slice A1_16 l1_16.length c1_16), (.slice A1_17 l1_17.length c1_17), .int .i64 a1_18, .int .i64 a1_19, .int .i64 a1_20, .int .i64 a1_21, .int .i64 a1_22, .int .i64 a1_23] 44 (0, 0))) ∧ Aside0 (wc.heap[gb796]? = some (.cells #[.string a3_0, .int .i64 a3_1, .string a3_2, .int .i64 a3_3, .int .i64 a3_4, .string a3_5] 76 (0, 0))) ∧ Aside0 (wc.heap[gb806]? = some (.cells #[.string t798, .int .i64 t799, .string t800, .int .i64 t801, .int .i64 t802, .string t803] 76 (0, 0))) ∧ Aside0 (wc.heap[gb831]? = some (.cells #[.string t825, .int .i64 t826, .string t827, .int .i64 t828, .int .i64 t829, .string t830] 76 (0, 0))) ∧ Aside0 (Below w.heap.size w wc))
     case first =>
      have H := HC40.out
      clear HC40
      by_cases c53 : t828 = 0
      ·rw [if_pos c53] at H
       have c53b0 : (t828 == 0) = true := beq_iff_eq.mpr c53
       have c53b1 : (t828 != 0) = false := bne_eq_false_iff_eq.mpr c53
       clear c53
       (first | rw [c53b0] | (simp only [i64_w, i32_w]; rw [c53b0]) | skip)
       have H' := Aside0.mk H
       clear H
       have hnb54 := NB831_794.out
       have hnc54 := NB794_831.out
       have hnb55 := NB831_795.out
       have hnc55 := NB795_831.out
       have hnb56 := NB831_796.out
       have hnc56 := NB796_831.out
       have hnb57 := NB831_806.out
       have hnc57 := NB806_831.out
       obtain ⟨hcz58_0, hcz58_1, hcz58_2, hcz58_3, hcz58_4, hcz58_5⟩ := cells_6 BK831.out
       obtain ⟨hfz58_0, hfz58_1, hfz58_2, hfz58_3, hfz58_4, hfz58_5⟩ := frozen_6 BK831.out
       go_wp2
       go_meet
       case rel => exact ⟨_, (false), (by first | rfl | (simp; done) | (simp [*]; done)), H', ⟨by have := HJ14.out; first | omega | exact Nat.le_refl _⟩, ⟨by (with_reducible repeat (first | refine blk_drewN ?_ _ | refine blk_drew ?_ | refine blk_alloc ?_ _)); exact BK794.out⟩, ⟨by (with_reducible repeat (first | refine blk_drewN ?_ _ | refine blk_drew ?_ | refine blk_alloc ?_ _)); exact BK795.out⟩, ⟨by (with_reducible repeat (first | refine blk_drewN ?_ _ | refine blk_drew ?_ | refine blk_alloc ?_ _)); exact BK796.out⟩, ⟨by (with_reducible repeat (first | refine blk_drewN ?_ _ | refine blk_drew ?_ | refine blk_alloc ?_ _)); exact BK806.out⟩, ⟨by (with_reducible repeat (first | refine blk_drewN ?_ _ | refine blk_drew ?_ | refine blk_alloc ?_ _)); exact BK831.out⟩, ⟨by repeat (first | (with_reducible first | exact HB.out | apply below_alloc | apply pw_below_drewN | apply below_drew1 | refine below_set ?_ GE794.out | refine below_set ?_ GE795.out | refine below_set ?_ GE796.out | refine below_set ?_ GE806.out | refine below_set ?_ GE831.out) | exact HB.out)⟩⟩
      ·rw [if_neg c53] at H
       have c53b0 : (t828 == 0) = false := beq_eq_false_iff_ne.mpr c53
       have c53b1 : (t828 != 0) = true := bne_iff_ne.mpr c53
       (first | rw [c53b0] | (simp only [i64_w, i32_w]; rw [c53b0]) | skip)
       by_cases c59 : (!(t825.toList == a3_0.toList) || (!(t826 == a3_1) || (!(t827.toList == a3_2.toList) || (!(t828 == a3_3) || (!(t829 == a3_4) || (!(t830.toList == a3_5.toList))))))) = true
       ·rw [if_pos c59] at H
        have c59b0 : (!(t825.toList == a3_0.toList) || (!(t826 == a3_1) || (!(t827.toList == a3_2.toList) || (!(t828 == a3_3) || (!(t829 == a3_4) || (!(t830.toList == a3_5.toList))))))) = true := c59
        clear c59
        have H' := Aside0.mk H
        clear H
        have hnb60 := NB831_794.out
        have hnc60 := NB794_831.out
        have hnb61 := NB831_795.out
        have hnc61 := NB795_831.out
        have hnb62 := NB831_796.out
        have hnc62 := NB796_831.out
        have hnb63 := NB831_806.out
        have hnc63 := NB806_831.out
        obtain ⟨hcz64_0, hcz64_1, hcz64_2, hcz64_3, hcz64_4, hcz64_5⟩ := cells_6 BK831.out
        obtain ⟨hfz64_0, hfz64_1, hfz64_2, hfz64_3, hfz64_4, hfz64_5⟩ := frozen_6 BK831.out
        have hnb65 := NB796_794.out
        have hnc65 := NB794_796.out
        have hnb66 := NB796_795.out
        have hnc66 := NB795_796.out
        have hnb67 := NB796_806.out
        have hnc67 := NB806_796.out
        obtain ⟨hcz68_0, hcz68_1, hcz68_2, hcz68_3, hcz68_4, hcz68_5⟩ := cells_6 BK796.out
        obtain ⟨hfz68_0, hfz68_1, hfz68_2, hfz68_3, hfz68_4, hfz68_5⟩ := frozen_6 BK796.out
        go_wp2
        go_meet
        case rel => exact ⟨_, (true), (by first | rfl | (simp; done) | (simp [*]; done)), H', ⟨by have := HJ14.out; first | omega | exact Nat.le_refl _⟩, ⟨by (with_reducible repeat (first | refine blk_drewN ?_ _ | refine blk_drew ?_ | refine blk_alloc ?_ _)); exact BK794.out⟩, ⟨by (with_reducible repeat (first | refine blk_drewN ?_ _ | refine blk_drew ?_ | refine blk_alloc ?_ _)); exact BK795.out⟩, ⟨by (with_reducible repeat (first | refine blk_drewN ?_ _ | refine blk_drew ?_ | refine blk_alloc ?_ _)); exact BK796.out⟩, ⟨by (with_reducible repeat (first | refine blk_drewN ?_ _ | refine blk_drew ?_ | refine blk_alloc ?_ _)); exact BK806.out⟩, ⟨by (with_reducible repeat (first | refine blk_drewN ?_ _ | refine blk_drew ?_ | refine blk_alloc ?_ _)); exact BK831.out⟩, ⟨by repeat (first | (with_reducible first | exact HB.out | apply below_alloc | apply pw_below_drewN | apply below_drew1 | refine below_set ?_ GE794.out | refine below_set ?_ GE795.out | refine below_set ?_ GE796.out | refine below_set ?_ GE806.out | refine below_set ?_ GE831.out) | exact HB.out)⟩⟩
       ·rw [if_neg c59] at H
        have c59b0 : (!(t825.toList == a3_0.toList) || (!(t826 == a3_1) || (!(t827.toList == a3_2.toList) || (!(t828 == a3_3) || (!(t829 == a3_4) || (!(t830.toList == a3_5.toList))))))) = false := by simpa using c59
        clear c59
        replace H := Option.bind_eq_some_iff.mp H
        obtain ⟨t832, A690, H⟩ := H
        replace H : (if t832 = a2 then (if t829 = a1_7 then (bellwetherlaw23_GateGuards.j1 kj14 a2 t804 t805 (t830.toList != a1_14.toList) a0_0 a0_1 a0_2 a0_3 a0_4 a0_5 a0_6 a0_7 a0_8 a0_9 l0_10 a1_0 a1_1 a1_2 a1_3 a1_4 a1_5 a1_6 a1_7 a1_8 a1_9 a1_10 a1_11 a1_12 a1_13 a1_14 l1_15 l1_16 l1_17 a1_18 a1_19 a1_20 a1_21 a1_22 a1_23 t798 t799 t800 t801 t802 t803) else (bellwetherlaw23_GateGuards.j1 kj14 a2 t804 t805 true a0_0 a0_1 a0_2 a0_3 a0_4 a0_5 a0_6 a0_7 a0_8 a0_9 l0_10 a1_0 a1_1 a1_2 a1_3 a1_4 a1_5 a1_6 a1_7 a1_8 a1_9 a1_10 a1_11 a1_12 a1_13 a1_14 l1_15 l1_16 l1_17 a1_18 a1_19 a1_20 a1_21 a1_22 a1_23 t798 t799 t800 t801 t802 t803)) else (bellwetherlaw23_GateGuards.j1 kj14 a2 t804 t805 true a0_0 a0_1 a0_2 a0_3 a0_4 a0_5 a0_6 a0_7 a0_8 a0_9 l0_10 a1_0 a1_1 a1_2 a1_3 a1_4 a1_5 a1_6 a1_7 a1_8 a1_9 a1_10 a1_11 a1_12 a1_13 a1_14 l1_15 l1_16 l1_17 a1_18 a1_19 a1_20 a1_21 a1_22 a1_23 t798 t799 t800 t801 t802 t803)) = some r := H
        have A69 := Aside0.mk A690
        clear A690
        by_cases c70 : t832 = a2
        ·rw [if_pos c70] at H
         have c70b0 : (t832 == a2) = true := beq_iff_eq.mpr c70
         have c70b1 : (t832 != a2) = false := bne_eq_false_iff_eq.mpr c70
         clear c70
         by_cases c71 : t829 = a1_7
         ·rw [if_pos c71] at H
          have c71b0 : (t829 == a1_7) = true := beq_iff_eq.mpr c71
          have c71b1 : (t829 != a1_7) = false := bne_eq_false_iff_eq.mpr c71
          clear c71
          have H' := Aside0.mk H
          clear H
          have hnb72 := NB831_794.out
          have hnc72 := NB794_831.out
          have hnb73 := NB831_795.out
          have hnc73 := NB795_831.out
          have hnb74 := NB831_796.out
          have hnc74 := NB796_831.out
          have hnb75 := NB831_806.out
          have hnc75 := NB806_831.out
          obtain ⟨hcz76_0, hcz76_1, hcz76_2, hcz76_3, hcz76_4, hcz76_5⟩ := cells_6 BK831.out
          obtain ⟨hfz76_0, hfz76_1, hfz76_2, hfz76_3, hfz76_4, hfz76_5⟩ := frozen_6 BK831.out
          have hnb77 := NB796_794.out
          have hnc77 := NB794_796.out
          have hnb78 := NB796_795.out
          have hnc78 := NB795_796.out
          have hnb79 := NB796_806.out
          have hnc79 := NB806_796.out
          obtain ⟨hcz80_0, hcz80_1, hcz80_2, hcz80_3, hcz80_4, hcz80_5⟩ := cells_6 BK796.out
          obtain ⟨hfz80_0, hfz80_1, hfz80_2, hfz80_3, hfz80_4, hfz80_5⟩ := frozen_6 BK796.out
          have hnb81 := NB794_795.out
          have hnc81 := NB795_794.out
          have hnb82 := NB794_806.out
          have hnc82 := NB806_794.out
          obtain ⟨hcz83_0, hcz83_1, hcz83_2, hcz83_3, hcz83_4, hcz83_5, hcz83_6, hcz83_7, hcz83_8, hcz83_9, hcz83_10⟩ := cells_11 BK794.out
          obtain ⟨hfz83_0, hfz83_1, hfz83_2, hfz83_3, hfz83_4, hfz83_5, hfz83_6, hfz83_7, hfz83_8, hfz83_9, hfz83_10⟩ := frozen_11 BK794.out
          go_wp2_with (first | ((with_reducible refine gate_load (t := 24) (x := .tmp 4) rfl ?_); refine load_row_g (cs := ?_) ?hw 24 (.tmp 4) ?h2 gb794 ?hx 24 (fr := (0, 0)) (d := ?_) ?hg ?h3 ?h4 ?hi ?_; (case hw => first | (with_reducible rfl) | (go_simp; done) | rfl); (case h2 => rfl); (case hx => first | (with_reducible rfl) | (go_simp; done) | rfl); (case hg => (with_reducible repeat (first | refine blk_drewN ?_ _ | refine blk_drew ?_ | refine blk_alloc ?_ _)); with_reducible exact BK794.out); (case h3 => exact Try.underlying24); (case h4 => rfl); (case hi => kernel_rfl)) | ((with_reducible refine gate_load (t := 44) (x := .tmp 5) rfl ?_); refine load_row_g (cs := ?_) ?hw 44 (.tmp 5) ?h2 gb795 ?hx 44 (fr := (0, 0)) (d := ?_) ?hg ?h3 ?h4 ?hi ?_; (case hw => first | (with_reducible rfl) | (go_simp; done) | rfl); (case h2 => rfl); (case hx => first | (with_reducible rfl) | (go_simp; done) | rfl); (case hg => (with_reducible repeat (first | refine blk_drewN ?_ _ | refine blk_drew ?_ | refine blk_alloc ?_ _)); with_reducible exact BK795.out); (case h3 => exact Try.underlying44); (case h4 => rfl); (case hi => kernel_rfl)) | ((with_reducible refine gate_load (t := 76) (x := .tmp 7) rfl ?_); refine load_row_g (cs := ?_) ?hw 76 (.tmp 7) ?h2 gb796 ?hx 76 (fr := (0, 0)) (d := ?_) ?hg ?h3 ?h4 ?hi ?_; (case hw => first | (with_reducible rfl) | (go_simp; done) | rfl); (case h2 => rfl); (case hx => first | (with_reducible rfl) | (go_simp; done) | rfl); (case hg => (with_reducible repeat (first | refine blk_drewN ?_ _ | refine blk_drew ?_ | refine blk_alloc ?_ _)); with_reducible exact BK796.out); (case h3 => exact Try.underlying76); (case h4 => rfl); (case hi => kernel_rfl)) | ((with_reducible refine gate_load (t := 76) (x := .tmp 9) rfl ?_); refine load_row_g (cs := ?_) ?hw 76 (.tmp 9) ?h2 gb806 ?hx 76 (fr := (0, 0)) (d := ?_) ?hg ?h3 ?h4 ?hi ?_; (case hw => first | (with_reducible rfl) | (go_simp; done) | rfl); (case h2 => rfl); (case hx => first | (with_reducible rfl) | (go_simp; done) | rfl); (case hg => (with_reducible repeat (first | refine blk_drewN ?_ _ | refine blk_drew ?_ | refine blk_alloc ?_ _)); with_reducible exact BK806.out); (case h3 => exact Try.underlying76); (case h4 => rfl); (case hi => kernel_rfl)) | ((with_reducible refine gate_load (t := 76) (x := .tmp 12) rfl ?_); refine load_row_g (cs := ?_) ?hw 76 (.tmp 12) ?h2 gb831 ?hx 76 (fr := (0, 0)) (d := ?_) ?hg ?h3 ?h4 ?hi ?_; (case hw => first | (with_reducible rfl) | (go_simp; done) | rfl); (case h2 => rfl); (case hx => first | (with_reducible rfl) | (go_simp; done) | rfl); (case hg => (with_reducible repeat (first | refine blk_drewN ?_ _ | refine blk_drew ?_ | refine blk_alloc ?_ _)); with_reducible exact BK831.out); (case h3 => exact Try.underlying76); (case h4 => rfl); (case hi => kernel_rfl)) | (go_at_call 71; (with_reducible refine (bellwetherref21_Owner.calls kj14 a0_0 a0_1 a0_2 a0_3 a0_4 a0_5 a0_6 a0_7 a0_8 a0_9 _ _ l0_10 (wrap64 (t828 - 1)) t832 _ ?side1 ?side2 A69.out).mono ?_); (case side1 => exact (Kd.C_below HR0_10.out HB.out)); (case side2 => exact HC0_10.out); rintro e w84 ⟨rfl, hb⟩; have n0_ := Aside0.mk (blk_below BK794.out hb); have n1_ := Aside0.mk (blk_below BK795.out hb); have n2_ := Aside0.mk (blk_below BK796.out hb); have n3_ := Aside0.mk (blk_below BK806.out hb); have n4_ := Aside0.mk (blk_below BK831.out hb); have n5_ := Aside0.mk (below_step HB.out hb); clear BK794; clear BK795; clear BK796; clear BK806; clear BK831; clear HB; have BK794 := n0_; have BK795 := n1_; have BK796 := n2_; have BK806 := n3_; have BK831 := n4_; have HB := n5_; clear n0_ n1_ n2_ n3_ n4_ n5_; (try clear hb); (try clear hb2); (try clear hk); (try clear hi); have hall9_ := cells_6 BK831.out; have hall10_ := frozen_6 BK831.out; have hnb86 := NB795_806.out; have hnc86 := NB806_795.out; have hall11_ := cells_24 BK795.out; have hall12_ := frozen_24 BK795.out))
          go_meet
          case rel => exact ⟨_, ((t830.toList != a1_14.toList)), (by first | rfl | (simp; done) | (simp [*]; done)), H', ⟨by have := HJ14.out; first | omega | exact Nat.le_refl _⟩, ⟨by (with_reducible repeat (first | refine blk_drewN ?_ _ | refine blk_drew ?_ | refine blk_alloc ?_ _)); exact BK794.out⟩, ⟨by (with_reducible repeat (first | refine blk_drewN ?_ _ | refine blk_drew ?_ | refine blk_alloc ?_ _)); exact BK795.out⟩, ⟨by (with_reducible repeat (first | refine blk_drewN ?_ _ | refine blk_drew ?_ | refine blk_alloc ?_ _)); exact BK796.out⟩, ⟨by (with_reducible repeat (first | refine blk_drewN ?_ _ | refine blk_drew ?_ | refine blk_alloc ?_ _)); exact BK806.out⟩, ⟨by (with_reducible repeat (first | refine blk_drewN ?_ _ | refine blk_drew ?_ | refine blk_alloc ?_ _)); exact BK831.out⟩, ⟨by repeat (first | (with_reducible first | exact HB.out | apply below_alloc | apply pw_below_drewN | apply below_drew1 | refine below_set ?_ GE794.out | refine below_set ?_ GE795.out | refine below_set ?_ GE796.out | refine below_set ?_ GE806.out | refine below_set ?_ GE831.out) | exact HB.out)⟩⟩
         ·rw [if_neg c71] at H
          have c71b0 : (t829 == a1_7) = false := beq_eq_false_iff_ne.mpr c71
          have c71b1 : (t829 != a1_7) = true := bne_iff_ne.mpr c71
          have H' := Aside0.mk H
          clear H
          have hnb88 := NB831_794.out
          have hnc88 := NB794_831.out
          have hnb89 := NB831_795.out
          have hnc89 := NB795_831.out
          have hnb90 := NB831_796.out
          have hnc90 := NB796_831.out
          have hnb91 := NB831_806.out
          have hnc91 := NB806_831.out
          obtain ⟨hcz92_0, hcz92_1, hcz92_2, hcz92_3, hcz92_4, hcz92_5⟩ := cells_6 BK831.out
          obtain ⟨hfz92_0, hfz92_1, hfz92_2, hfz92_3, hfz92_4, hfz92_5⟩ := frozen_6 BK831.out
          have hnb93 := NB796_794.out
          have hnc93 := NB794_796.out
          have hnb94 := NB796_795.out
          have hnc94 := NB795_796.out
          have hnb95 := NB796_806.out
          have hnc95 := NB806_796.out
          obtain ⟨hcz96_0, hcz96_1, hcz96_2, hcz96_3, hcz96_4, hcz96_5⟩ := cells_6 BK796.out
          obtain ⟨hfz96_0, hfz96_1, hfz96_2, hfz96_3, hfz96_4, hfz96_5⟩ := frozen_6 BK796.out
          have hnb97 := NB794_795.out
          have hnc97 := NB795_794.out
          have hnb98 := NB794_806.out
          have hnc98 := NB806_794.out
          obtain ⟨hcz99_0, hcz99_1, hcz99_2, hcz99_3, hcz99_4, hcz99_5, hcz99_6, hcz99_7, hcz99_8, hcz99_9, hcz99_10⟩ := cells_11 BK794.out
          obtain ⟨hfz99_0, hfz99_1, hfz99_2, hfz99_3, hfz99_4, hfz99_5, hfz99_6, hfz99_7, hfz99_8, hfz99_9, hfz99_10⟩ := frozen_11 BK794.out
          go_wp2_with (first | ((with_reducible refine gate_load (t := 24) (x := .tmp 4) rfl ?_); refine load_row_g (cs := ?_) ?hw 24 (.tmp 4) ?h2 gb794 ?hx 24 (fr := (0, 0)) (d := ?_) ?hg ?h3 ?h4 ?hi ?_; (case hw => first | (with_reducible rfl) | (go_simp; done) | rfl); (case h2 => rfl); (case hx => first | (with_reducible rfl) | (go_simp; done) | rfl); (case hg => (with_reducible repeat (first | refine blk_drewN ?_ _ | refine blk_drew ?_ | refine blk_alloc ?_ _)); with_reducible exact BK794.out); (case h3 => exact Try.underlying24); (case h4 => rfl); (case hi => kernel_rfl)) | ((with_reducible refine gate_load (t := 44) (x := .tmp 5) rfl ?_); refine load_row_g (cs := ?_) ?hw 44 (.tmp 5) ?h2 gb795 ?hx 44 (fr := (0, 0)) (d := ?_) ?hg ?h3 ?h4 ?hi ?_; (case hw => first | (with_reducible rfl) | (go_simp; done) | rfl); (case h2 => rfl); (case hx => first | (with_reducible rfl) | (go_simp; done) | rfl); (case hg => (with_reducible repeat (first | refine blk_drewN ?_ _ | refine blk_drew ?_ | refine blk_alloc ?_ _)); with_reducible exact BK795.out); (case h3 => exact Try.underlying44); (case h4 => rfl); (case hi => kernel_rfl)) | ((with_reducible refine gate_load (t := 76) (x := .tmp 7) rfl ?_); refine load_row_g (cs := ?_) ?hw 76 (.tmp 7) ?h2 gb796 ?hx 76 (fr := (0, 0)) (d := ?_) ?hg ?h3 ?h4 ?hi ?_; (case hw => first | (with_reducible rfl) | (go_simp; done) | rfl); (case h2 => rfl); (case hx => first | (with_reducible rfl) | (go_simp; done) | rfl); (case hg => (with_reducible repeat (first | refine blk_drewN ?_ _ | refine blk_drew ?_ | refine blk_alloc ?_ _)); with_reducible exact BK796.out); (case h3 => exact Try.underlying76); (case h4 => rfl); (case hi => kernel_rfl)) | ((with_reducible refine gate_load (t := 76) (x := .tmp 9) rfl ?_); refine load_row_g (cs := ?_) ?hw 76 (.tmp 9) ?h2 gb806 ?hx 76 (fr := (0, 0)) (d := ?_) ?hg ?h3 ?h4 ?hi ?_; (case hw => first | (with_reducible rfl) | (go_simp; done) | rfl); (case h2 => rfl); (case hx => first | (with_reducible rfl) | (go_simp; done) | rfl); (case hg => (with_reducible repeat (first | refine blk_drewN ?_ _ | refine blk_drew ?_ | refine blk_alloc ?_ _)); with_reducible exact BK806.out); (case h3 => exact Try.underlying76); (case h4 => rfl); (case hi => kernel_rfl)) | ((with_reducible refine gate_load (t := 76) (x := .tmp 12) rfl ?_); refine load_row_g (cs := ?_) ?hw 76 (.tmp 12) ?h2 gb831 ?hx 76 (fr := (0, 0)) (d := ?_) ?hg ?h3 ?h4 ?hi ?_; (case hw => first | (with_reducible rfl) | (go_simp; done) | rfl); (case h2 => rfl); (case hx => first | (with_reducible rfl) | (go_simp; done) | rfl); (case hg => (with_reducible repeat (first | refine blk_drewN ?_ _ | refine blk_drew ?_ | refine blk_alloc ?_ _)); with_reducible exact BK831.out); (case h3 => exact Try.underlying76); (case h4 => rfl); (case hi => kernel_rfl)) | (go_at_call 71; (with_reducible refine (bellwetherref21_Owner.calls kj14 a0_0 a0_1 a0_2 a0_3 a0_4 a0_5 a0_6 a0_7 a0_8 a0_9 _ _ l0_10 (wrap64 (t828 - 1)) t832 _ ?side1 ?side2 A69.out).mono ?_); (case side1 => exact (Kd.C_below HR0_10.out HB.out)); (case side2 => exact HC0_10.out); rintro e w100 ⟨rfl, hb⟩; have n0_ := Aside0.mk (blk_below BK794.out hb); have n1_ := Aside0.mk (blk_below BK795.out hb); have n2_ := Aside0.mk (blk_below BK796.out hb); have n3_ := Aside0.mk (blk_below BK806.out hb); have n4_ := Aside0.mk (blk_below BK831.out hb); have n5_ := Aside0.mk (below_step HB.out hb); clear BK794; clear BK795; clear BK796; clear BK806; clear BK831; clear HB; have BK794 := n0_; have BK795 := n1_; have BK796 := n2_; have BK806 := n3_; have BK831 := n4_; have HB := n5_; clear n0_ n1_ n2_ n3_ n4_ n5_; (try clear hb); (try clear hb2); (try clear hk); (try clear hi); have hall13_ := cells_6 BK831.out; have hall14_ := frozen_6 BK831.out; have hnb102 := NB795_806.out; have hnc102 := NB806_795.out; have hall15_ := cells_24 BK795.out; have hall16_ := frozen_24 BK795.out))
          go_meet
          case rel => exact ⟨_, (true), (by first | rfl | (simp; done) | (simp [*]; done)), H', ⟨by have := HJ14.out; first | omega | exact Nat.le_refl _⟩, ⟨by (with_reducible repeat (first | refine blk_drewN ?_ _ | refine blk_drew ?_ | refine blk_alloc ?_ _)); exact BK794.out⟩, ⟨by (with_reducible repeat (first | refine blk_drewN ?_ _ | refine blk_drew ?_ | refine blk_alloc ?_ _)); exact BK795.out⟩, ⟨by (with_reducible repeat (first | refine blk_drewN ?_ _ | refine blk_drew ?_ | refine blk_alloc ?_ _)); exact BK796.out⟩, ⟨by (with_reducible repeat (first | refine blk_drewN ?_ _ | refine blk_drew ?_ | refine blk_alloc ?_ _)); exact BK806.out⟩, ⟨by (with_reducible repeat (first | refine blk_drewN ?_ _ | refine blk_drew ?_ | refine blk_alloc ?_ _)); exact BK831.out⟩, ⟨by repeat (first | (with_reducible first | exact HB.out | apply below_alloc | apply pw_below_drewN | apply below_drew1 | refine below_set ?_ GE794.out | refine below_set ?_ GE795.out | refine below_set ?_ GE796.out | refine below_set ?_ GE806.out | refine below_set ?_ GE831.out) | exact HB.out)⟩⟩
        ·rw [if_neg c70] at H
         have c70b0 : (t832 == a2) = false := beq_eq_false_iff_ne.mpr c70
         have c70b1 : (t832 != a2) = true := bne_iff_ne.mpr c70
         have H' := Aside0.mk H
         clear H
         have hnb104 := NB831_794.out
         have hnc104 := NB794_831.out
         have hnb105 := NB831_795.out
         have hnc105 := NB795_831.out
         have hnb106 := NB831_796.out
         have hnc106 := NB796_831.out
         have hnb107 := NB831_806.out
         have hnc107 := NB806_831.out
         obtain ⟨hcz108_0, hcz108_1, hcz108_2, hcz108_3, hcz108_4, hcz108_5⟩ := cells_6 BK831.out
         obtain ⟨hfz108_0, hfz108_1, hfz108_2, hfz108_3, hfz108_4, hfz108_5⟩ := frozen_6 BK831.out
         have hnb109 := NB796_794.out
         have hnc109 := NB794_796.out
         have hnb110 := NB796_795.out
         have hnc110 := NB795_796.out
         have hnb111 := NB796_806.out
         have hnc111 := NB806_796.out
         obtain ⟨hcz112_0, hcz112_1, hcz112_2, hcz112_3, hcz112_4, hcz112_5⟩ := cells_6 BK796.out
         obtain ⟨hfz112_0, hfz112_1, hfz112_2, hfz112_3, hfz112_4, hfz112_5⟩ := frozen_6 BK796.out
         have hnb113 := NB794_795.out
         have hnc113 := NB795_794.out
         have hnb114 := NB794_806.out
         have hnc114 := NB806_794.out
         obtain ⟨hcz115_0, hcz115_1, hcz115_2, hcz115_3, hcz115_4, hcz115_5, hcz115_6, hcz115_7, hcz115_8, hcz115_9, hcz115_10⟩ := cells_11 BK794.out
         obtain ⟨hfz115_0, hfz115_1, hfz115_2, hfz115_3, hfz115_4, hfz115_5, hfz115_6, hfz115_7, hfz115_8, hfz115_9, hfz115_10⟩ := frozen_11 BK794.out
         go_wp2_with (first | ((with_reducible refine gate_load (t := 24) (x := .tmp 4) rfl ?_); refine load_row_g (cs := ?_) ?hw 24 (.tmp 4) ?h2 gb794 ?hx 24 (fr := (0, 0)) (d := ?_) ?hg ?h3 ?h4 ?hi ?_; (case hw => first | (with_reducible rfl) | (go_simp; done) | rfl); (case h2 => rfl); (case hx => first | (with_reducible rfl) | (go_simp; done) | rfl); (case hg => (with_reducible repeat (first | refine blk_drewN ?_ _ | refine blk_drew ?_ | refine blk_alloc ?_ _)); with_reducible exact BK794.out); (case h3 => exact Try.underlying24); (case h4 => rfl); (case hi => kernel_rfl)) | ((with_reducible refine gate_load (t := 44) (x := .tmp 5) rfl ?_); refine load_row_g (cs := ?_) ?hw 44 (.tmp 5) ?h2 gb795 ?hx 44 (fr := (0, 0)) (d := ?_) ?hg ?h3 ?h4 ?hi ?_; (case hw => first | (with_reducible rfl) | (go_simp; done) | rfl); (case h2 => rfl); (case hx => first | (with_reducible rfl) | (go_simp; done) | rfl); (case hg => (with_reducible repeat (first | refine blk_drewN ?_ _ | refine blk_drew ?_ | refine blk_alloc ?_ _)); with_reducible exact BK795.out); (case h3 => exact Try.underlying44); (case h4 => rfl); (case hi => kernel_rfl)) | ((with_reducible refine gate_load (t := 76) (x := .tmp 7) rfl ?_); refine load_row_g (cs := ?_) ?hw 76 (.tmp 7) ?h2 gb796 ?hx 76 (fr := (0, 0)) (d := ?_) ?hg ?h3 ?h4 ?hi ?_; (case hw => first | (with_reducible rfl) | (go_simp; done) | rfl); (case h2 => rfl); (case hx => first | (with_reducible rfl) | (go_simp; done) | rfl); (case hg => (with_reducible repeat (first | refine blk_drewN ?_ _ | refine blk_drew ?_ | refine blk_alloc ?_ _)); with_reducible exact BK796.out); (case h3 => exact Try.underlying76); (case h4 => rfl); (case hi => kernel_rfl)) | ((with_reducible refine gate_load (t := 76) (x := .tmp 9) rfl ?_); refine load_row_g (cs := ?_) ?hw 76 (.tmp 9) ?h2 gb806 ?hx 76 (fr := (0, 0)) (d := ?_) ?hg ?h3 ?h4 ?hi ?_; (case hw => first | (with_reducible rfl) | (go_simp; done) | rfl); (case h2 => rfl); (case hx => first | (with_reducible rfl) | (go_simp; done) | rfl); (case hg => (with_reducible repeat (first | refine blk_drewN ?_ _ | refine blk_drew ?_ | refine blk_alloc ?_ _)); with_reducible exact BK806.out); (case h3 => exact Try.underlying76); (case h4 => rfl); (case hi => kernel_rfl)) | ((with_reducible refine gate_load (t := 76) (x := .tmp 12) rfl ?_); refine load_row_g (cs := ?_) ?hw 76 (.tmp 12) ?h2 gb831 ?hx 76 (fr := (0, 0)) (d := ?_) ?hg ?h3 ?h4 ?hi ?_; (case hw => first | (with_reducible rfl) | (go_simp; done) | rfl); (case h2 => rfl); (case hx => first | (with_reducible rfl) | (go_simp; done) | rfl); (case hg => (with_reducible repeat (first | refine blk_drewN ?_ _ | refine blk_drew ?_ | refine blk_alloc ?_ _)); with_reducible exact BK831.out); (case h3 => exact Try.underlying76); (case h4 => rfl); (case hi => kernel_rfl)) | (go_at_call 71; (with_reducible refine (bellwetherref21_Owner.calls kj14 a0_0 a0_1 a0_2 a0_3 a0_4 a0_5 a0_6 a0_7 a0_8 a0_9 _ _ l0_10 (wrap64 (t828 - 1)) t832 _ ?side1 ?side2 A69.out).mono ?_); (case side1 => exact (Kd.C_below HR0_10.out HB.out)); (case side2 => exact HC0_10.out); rintro e w116 ⟨rfl, hb⟩; have n0_ := Aside0.mk (blk_below BK794.out hb); have n1_ := Aside0.mk (blk_below BK795.out hb); have n2_ := Aside0.mk (blk_below BK796.out hb); have n3_ := Aside0.mk (blk_below BK806.out hb); have n4_ := Aside0.mk (blk_below BK831.out hb); have n5_ := Aside0.mk (below_step HB.out hb); clear BK794; clear BK795; clear BK796; clear BK806; clear BK831; clear HB; have BK794 := n0_; have BK795 := n1_; have BK796 := n2_; have BK806 := n3_; have BK831 := n4_; have HB := n5_; clear n0_ n1_ n2_ n3_ n4_ n5_; (try clear hb); (try clear hb2); (try clear hk); (try clear hi)))
         go_meet
         case rel => exact ⟨_, (true), (by first | rfl | (simp; done) | (simp [*]; done)), H', ⟨by have := HJ14.out; first | omega | exact Nat.le_refl _⟩, ⟨by (with_reducible repeat (first | refine blk_drewN ?_ _ | refine blk_drew ?_ | refine blk_alloc ?_ _)); exact BK794.out⟩, ⟨by (with_reducible repeat (first | refine blk_drewN ?_ _ | refine blk_drew ?_ | refine blk_alloc ?_ _)); exact BK795.out⟩, ⟨by (with_reducible repeat (first | refine blk_drewN ?_ _ | refine blk_drew ?_ | refine blk_alloc ?_ _)); exact BK796.out⟩, ⟨by (with_reducible repeat (first | refine blk_drewN ?_ _ | refine blk_drew ?_ | refine blk_alloc ?_ _)); exact BK806.out⟩, ⟨by (with_reducible repeat (first | refine blk_drewN ?_ _ | refine blk_drew ?_ | refine blk_alloc ?_ _)); exact BK831.out⟩, ⟨by repeat (first | (with_reducible first | exact HB.out | apply below_alloc | apply pw_below_drewN | apply below_drew1 | refine below_set ?_ GE794.out | refine below_set ?_ GE795.out | refine below_set ?_ GE796.out | refine below_set ?_ GE806.out | refine below_set ?_ GE831.out) | exact HB.out)⟩⟩
     case rest =>
      clear HC40
      try clear c1
      try clear c2
      try clear p2
      try clear c3
      try clear c4
      try clear c5
      try clear c5b0
      try clear c5b1
      try clear c6
      try clear p6
      try clear c7
      try clear c8
      try clear c9
      try clear c10
      try clear c11
      try clear c17
      try clear c19
      try clear c20
      try clear c22
      try clear c29
      try clear c29b0
      try clear c38
      try clear c41
      try clear c42
      try clear c43
      try clear c45
      try clear c46
      try clear c48
      try clear c53
      try clear c53b0
      try clear c53b1
      try clear c54
      try clear c55
      try clear c56
      try clear c57
      try clear c59
      try clear c59b0
      try clear c60
      try clear c61
      try clear c62
      try clear c63
      try clear p64
      try clear c65
      try clear c66
      try clear c67
      try clear c68
      try clear c70
      try clear c70b0
      try clear c70b1
      try clear c71
      try clear c71b0
      try clear c71b1
      try clear c72
      try clear c73
      try clear c74
      try clear c75
      try clear c77
      try clear c78
      try clear c79
      try clear c81
      try clear c82
      try clear c86
      try clear c88
      try clear c89
      try clear c90
      try clear c91
      try clear c93
      try clear c94
      try clear c95
      try clear c97
      try clear c98
      try clear c102
      try clear c104
      try clear c105
      try clear c106
      try clear c107
      try clear c109
      try clear c110
      try clear c111
      try clear c113
      try clear c114
      try clear hcz101_0
      try clear hcz101_1
      try clear hcz101_2
      try clear hcz101_3
      try clear hcz101_4
      try clear hcz101_5
      try clear hcz103_0
      try clear hcz103_1
      try clear hcz103_10
      try clear hcz103_11
      try clear hcz103_12
      try clear hcz103_13
      try clear hcz103_14
      try clear hcz103_15
      try clear hcz103_16
      try clear hcz103_17
      try clear hcz103_18
      try clear hcz103_19
      try clear hcz103_2
      try clear hcz103_20
      try clear hcz103_21
      try clear hcz103_22
      try clear hcz103_23
      try clear hcz103_3
      try clear hcz103_4
      try clear hcz103_5
      try clear hcz103_6
      try clear hcz103_7
      try clear hcz103_8
      try clear hcz103_9
      try clear hcz108_0
      try clear hcz108_1
      try clear hcz108_2
      try clear hcz108_3
      try clear hcz108_4
      try clear hcz108_5
      try clear hcz112_0
      try clear hcz112_1
      try clear hcz112_2
      try clear hcz112_3
      try clear hcz112_4
      try clear hcz112_5
      try clear hcz115_0
      try clear hcz115_1
      try clear hcz115_10
      try clear hcz115_2
      try clear hcz115_3
      try clear hcz115_4
      try clear hcz115_5
      try clear hcz115_6
      try clear hcz115_7
      try clear hcz115_8
      try clear hcz115_9
      try clear hcz12_0
      try clear hcz12_1
      try clear hcz12_10
      try clear hcz12_11
      try clear hcz12_12
      try clear hcz12_13
      try clear hcz12_14
      try clear hcz12_15
      try clear hcz12_16
      try clear hcz12_17
      try clear hcz12_18
      try clear hcz12_19
      try clear hcz12_2
      try clear hcz12_20
      try clear hcz12_21
      try clear hcz12_22
      try clear hcz12_23
      try clear hcz12_3
      try clear hcz12_4
      try clear hcz12_5
      try clear hcz12_6
      try clear hcz12_7
      try clear hcz12_8
      try clear hcz12_9
      try clear hcz21_0
      try clear hcz21_1
      try clear hcz21_10
      try clear hcz21_11
      try clear hcz21_12
      try clear hcz21_13
      try clear hcz21_14
      try clear hcz21_15
      try clear hcz21_16
      try clear hcz21_17
      try clear hcz21_18
      try clear hcz21_19
      try clear hcz21_2
      try clear hcz21_20
      try clear hcz21_21
      try clear hcz21_22
      try clear hcz21_23
      try clear hcz21_3
      try clear hcz21_4
      try clear hcz21_5
      try clear hcz21_6
      try clear hcz21_7
      try clear hcz21_8
      try clear hcz21_9
      try clear hcz23_0
      try clear hcz23_1
      try clear hcz23_10
      try clear hcz23_2
      try clear hcz23_3
      try clear hcz23_4
      try clear hcz23_5
      try clear hcz23_6
      try clear hcz23_7
      try clear hcz23_8
      try clear hcz23_9
      try clear hcz24_0
      try clear hcz24_1
      try clear hcz24_2
      try clear hcz24_3
      try clear hcz24_4
      try clear hcz24_5
      try clear hcz44_0
      try clear hcz44_1
      try clear hcz44_10
      try clear hcz44_2
      try clear hcz44_3
      try clear hcz44_4
      try clear hcz44_5
      try clear hcz44_6
      try clear hcz44_7
      try clear hcz44_8
      try clear hcz44_9
      try clear hcz47_0
      try clear hcz47_1
      try clear hcz47_10
      try clear hcz47_11
      try clear hcz47_12
      try clear hcz47_13
      try clear hcz47_14
      try clear hcz47_15
      try clear hcz47_16
      try clear hcz47_17
      try clear hcz47_18
      try clear hcz47_19
      try clear hcz47_2
      try clear hcz47_20
      try clear hcz47_21
      try clear hcz47_22
      try clear hcz47_23
      try clear hcz47_3
      try clear hcz47_4
      try clear hcz47_5
      try clear hcz47_6
      try clear hcz47_7
      try clear hcz47_8
      try clear hcz47_9
      try clear hcz49_0
      try clear hcz49_1
      try clear hcz49_2
      try clear hcz49_3
      try clear hcz49_4
      try clear hcz49_5
      try clear hcz58_0
      try clear hcz58_1
      try clear hcz58_2
      try clear hcz58_3
      try clear hcz58_4
      try clear hcz58_5
      try clear hcz64_0
      try clear hcz64_1
      try clear hcz64_2
      try clear hcz64_3
      try clear hcz64_4
      try clear hcz64_5
      try clear hcz68_0
      try clear hcz68_1
      try clear hcz68_2
      try clear hcz68_3
      try clear hcz68_4
      try clear hcz68_5
      try clear hcz76_0
      try clear hcz76_1
      try clear hcz76_2
      try clear hcz76_3
      try clear hcz76_4
      try clear hcz76_5
      try clear hcz80_0
      try clear hcz80_1
      try clear hcz80_2
      try clear hcz80_3
      try clear hcz80_4
      try clear hcz80_5
      try clear hcz83_0
      try clear hcz83_1
      try clear hcz83_10
      try clear hcz83_2
      try clear hcz83_3
      try clear hcz83_4
      try clear hcz83_5
      try clear hcz83_6
      try clear hcz83_7
      try clear hcz83_8
      try clear hcz83_9
      try clear hcz85_0
      try clear hcz85_1
      try clear hcz85_2
      try clear hcz85_3
      try clear hcz85_4
      try clear hcz85_5
      try clear hcz87_0
      try clear hcz87_1
      try clear hcz87_10
      try clear hcz87_11
      try clear hcz87_12
      try clear hcz87_13
      try clear hcz87_14
      try clear hcz87_15
      try clear hcz87_16
      try clear hcz87_17
      try clear hcz87_18
      try clear hcz87_19
      try clear hcz87_2
      try clear hcz87_20
      try clear hcz87_21
      try clear hcz87_22
      try clear hcz87_23
      try clear hcz87_3
      try clear hcz87_4
      try clear hcz87_5
      try clear hcz87_6
      try clear hcz87_7
      try clear hcz87_8
      try clear hcz87_9
      try clear hcz92_0
      try clear hcz92_1
      try clear hcz92_2
      try clear hcz92_3
      try clear hcz92_4
      try clear hcz92_5
      try clear hcz96_0
      try clear hcz96_1
      try clear hcz96_2
      try clear hcz96_3
      try clear hcz96_4
      try clear hcz96_5
      try clear hcz99_0
      try clear hcz99_1
      try clear hcz99_10
      try clear hcz99_2
      try clear hcz99_3
      try clear hcz99_4
      try clear hcz99_5
      try clear hcz99_6
      try clear hcz99_7
      try clear hcz99_8
      try clear hcz99_9
      try clear hfz101_0
      try clear hfz101_1
      try clear hfz101_2
      try clear hfz101_3
      try clear hfz101_4
      try clear hfz101_5
      try clear hfz103_0
      try clear hfz103_1
      try clear hfz103_10
      try clear hfz103_11
      try clear hfz103_12
      try clear hfz103_13
      try clear hfz103_14
      try clear hfz103_15
      try clear hfz103_16
      try clear hfz103_17
      try clear hfz103_18
      try clear hfz103_19
      try clear hfz103_2
      try clear hfz103_20
      try clear hfz103_21
      try clear hfz103_22
      try clear hfz103_23
      try clear hfz103_3
      try clear hfz103_4
      try clear hfz103_5
      try clear hfz103_6
      try clear hfz103_7
      try clear hfz103_8
      try clear hfz103_9
      try clear hfz108_0
      try clear hfz108_1
      try clear hfz108_2
      try clear hfz108_3
      try clear hfz108_4
      try clear hfz108_5
      try clear hfz112_0
      try clear hfz112_1
      try clear hfz112_2
      try clear hfz112_3
      try clear hfz112_4
      try clear hfz112_5
      try clear hfz115_0
      try clear hfz115_1
      try clear hfz115_10
      try clear hfz115_2
      try clear hfz115_3
      try clear hfz115_4
      try clear hfz115_5
      try clear hfz115_6
      try clear hfz115_7
      try clear hfz115_8
      try clear hfz115_9
      try clear hfz12_0
      try clear hfz12_1
      try clear hfz12_10
      try clear hfz12_11
      try clear hfz12_12
      try clear hfz12_13
      try clear hfz12_14
      try clear hfz12_15
      try clear hfz12_16
      try clear hfz12_17
      try clear hfz12_18
      try clear hfz12_19
      try clear hfz12_2
      try clear hfz12_20
      try clear hfz12_21
      try clear hfz12_22
      try clear hfz12_23
      try clear hfz12_3
      try clear hfz12_4
      try clear hfz12_5
      try clear hfz12_6
      try clear hfz12_7
      try clear hfz12_8
      try clear hfz12_9
      try clear hfz21_0
      try clear hfz21_1
      try clear hfz21_10
      try clear hfz21_11
      try clear hfz21_12
      try clear hfz21_13
      try clear hfz21_14
      try clear hfz21_15
      try clear hfz21_16
      try clear hfz21_17
      try clear hfz21_18
      try clear hfz21_19
      try clear hfz21_2
      try clear hfz21_20
      try clear hfz21_21
      try clear hfz21_22
      try clear hfz21_23
      try clear hfz21_3
      try clear hfz21_4
      try clear hfz21_5
      try clear hfz21_6
      try clear hfz21_7
      try clear hfz21_8
      try clear hfz21_9
      try clear hfz23_0
      try clear hfz23_1
      try clear hfz23_10
      try clear hfz23_2
      try clear hfz23_3
      try clear hfz23_4
      try clear hfz23_5
      try clear hfz23_6
      try clear hfz23_7
      try clear hfz23_8
      try clear hfz23_9
      try clear hfz24_0
      try clear hfz24_1
      try clear hfz24_2
      try clear hfz24_3
      try clear hfz24_4
      try clear hfz24_5
      try clear hfz44_0
      try clear hfz44_1
      try clear hfz44_10
      try clear hfz44_2
      try clear hfz44_3
      try clear hfz44_4
      try clear hfz44_5
      try clear hfz44_6
      try clear hfz44_7
      try clear hfz44_8
      try clear hfz44_9
      try clear hfz47_0
      try clear hfz47_1
      try clear hfz47_10
      try clear hfz47_11
      try clear hfz47_12
      try clear hfz47_13
      try clear hfz47_14
      try clear hfz47_15
      try clear hfz47_16
      try clear hfz47_17
      try clear hfz47_18
      try clear hfz47_19
      try clear hfz47_2
      try clear hfz47_20
      try clear hfz47_21
      try clear hfz47_22
      try clear hfz47_23
      try clear hfz47_3
      try clear hfz47_4
      try clear hfz47_5
      try clear hfz47_6
      try clear hfz47_7
      try clear hfz47_8
      try clear hfz47_9
      try clear hfz49_0
      try clear hfz49_1
      try clear hfz49_2
      try clear hfz49_3
      try clear hfz49_4
      try clear hfz49_5
      try clear hfz58_0
      try clear hfz58_1
      try clear hfz58_2
      try clear hfz58_3
      try clear hfz58_4
      try clear hfz58_5
      try clear hfz64_0
      try clear hfz64_1
      try clear hfz64_2
      try clear hfz64_3
      try clear hfz64_4
      try clear hfz64_5
      try clear hfz68_0
      try clear hfz68_1
      try clear hfz68_2
      try clear hfz68_3
      try clear hfz68_4
      try clear hfz68_5
      try clear hfz76_0
      try clear hfz76_1
      try clear hfz76_2
      try clear hfz76_3
      try clear hfz76_4
      try clear hfz76_5
      try clear hfz80_0
      try clear hfz80_1
      try clear hfz80_2
      try clear hfz80_3
      try clear hfz80_4
      try clear hfz80_5
      try clear hfz83_0
      try clear hfz83_1
      try clear hfz83_10
      try clear hfz83_2
      try clear hfz83_3
      try clear hfz83_4
      try clear hfz83_5
      try clear hfz83_6
      try clear hfz83_7
      try clear hfz83_8
      try clear hfz83_9
      try clear hfz85_0
      try clear hfz85_1
      try clear hfz85_2
      try clear hfz85_3
      try clear hfz85_4
      try clear hfz85_5
      try clear hfz87_0
      try clear hfz87_1
      try clear hfz87_10
      try clear hfz87_11
      try clear hfz87_12
      try clear hfz87_13
      try clear hfz87_14
      try clear hfz87_15
      try clear hfz87_16
      try clear hfz87_17
      try clear hfz87_18
      try clear hfz87_19
      try clear hfz87_2
      try clear hfz87_20
      try clear hfz87_21
      try clear hfz87_22
      try clear hfz87_23
      try clear hfz87_3
      try clear hfz87_4
      try clear hfz87_5
      try clear hfz87_6
      try clear hfz87_7
      try clear hfz87_8
      try clear hfz87_9
      try clear hfz92_0
      try clear hfz92_1
      try clear hfz92_2
      try clear hfz92_3
      try clear hfz92_4
      try clear hfz92_5
      try clear hfz96_0
      try clear hfz96_1
      try clear hfz96_2
      try clear hfz96_3
      try clear hfz96_4
      try clear hfz96_5
      try clear hfz99_0
      try clear hfz99_1
      try clear hfz99_10
      try clear hfz99_2
      try clear hfz99_3
      try clear hfz99_4
      try clear hfz99_5
      try clear hfz99_6
      try clear hfz99_7
      try clear hfz99_8
      try clear hfz99_9
      try clear p2
      obtain ⟨kq, x76_39, rfl, HA, HJ39, BK794, BK795, BK796, BK806, BK831, HB⟩ := hcut
      cases kq with
      | zero => exact absurd HA.out (by simp [bellwetherlaw23_GateGuards.j1])
      | succ kj39 =>
       have H := HA.out
       clear HA
       simp only [bellwetherlaw23_GateGuards.j1] at H
       by_cases c117 : x76_39 = true
       ·subst c117
        have H1 : (none) = some r := by rw [if_pos rfl] at H; exact H
        clear H
        have H := H1
        clear H1
        exact absurd H (by simp)
       ·replace c117 := Bool.eq_false_iff.mpr c117
        subst c117
        have H1 : (if t805 = 0 then (if t801 = 0 then ((bellwetherlaw23_known.f kj39).bind fun t833 => (some t833)) else (none)) else ((bellwetherref21_Owner.f kj39 a0_0 a0_1 a0_2 a0_3 a0_4 a0_5 a0_6 a0_7 a0_8 a0_9 l0_10 (wrap64 (t805 - 1))).bind fun t834 => (if t834 = a2 then (if t801 = t805 then ((bellwetherref23_Has.f a1_12 (wrap64 (t805 - 1))).bind fun t835 => (if t835 = true then (bellwetherlaw23_GateGuards.j2 kj39 a2 t804 t805 true a0_0 a0_1 a0_2 a0_3 a0_4 a0_5 a0_6 a0_7 a0_8 a0_9 l0_10 a1_0 a1_1 a1_2 a1_3 a1_4 a1_5 a1_6 a1_7 a1_8 a1_9 a1_10 a1_11 a1_12 a1_13 a1_14 l1_15 l1_16 l1_17 a1_18 a1_19 a1_20 a1_21 a1_22 a1_23) else ((bellwetherref23_Has.f t804 (wrap64 (t805 - 1))).bind fun t836 => (if t836 = true then (bellwetherlaw23_GateGuards.j2 kj39 a2 t804 t805 ((t804.size : Int) != (l0_10.length : Int)) a0_0 a0_1 a0_2 a0_3 a0_4 a0_5 a0_6 a0_7 a0_8 a0_9 l0_10 a1_0 a1_1 a1_2 a1_3 a1_4 a1_5 a1_6 a1_7 a1_8 a1_9 a1_10 a1_11 a1_12 a1_13 a1_14 l1_15 l1_16 l1_17 a1_18 a1_19 a1_20 a1_21 a1_22 a1_23) else (bellwetherlaw23_GateGuards.j2 kj39 a2 t804 t805 true a0_0 a0_1 a0_2 a0_3 a0_4 a0_5 a0_6 a0_7 a0_8 a0_9 l0_10 a1_0 a1_1 a1_2 a1_3 a1_4 a1_5 a1_6 a1_7 a1_8 a1_9 a1_10 a1_11 a1_12 a1_13 a1_14 l1_15 l1_16 l1_17 a1_18 a1_19 a1_20 a1_21 a1_22 a1_23))))) else (bellwetherlaw23_GateGuards.j2 kj39 a2 t804 t805 true a0_0 a0_1 a0_2 a0_3 a0_4 a0_5 a0_6 a0_7 a0_8 a0_9 l0_10 a1_0 a1_1 a1_2 a1_3 a1_4 a1_5 a1_6 a1_7 a1_8 a1_9 a1_10 a1_11 a1_12 a1_13 a1_14 l1_15 l1_16 l1_17 a1_18 a1_19 a1_20 a1_21 a1_22 a1_23)) else (bellwetherlaw23_GateGuards.j2 kj39 a2 t804 t805 true a0_0 a0_1 a0_2 a0_3 a0_4 a0_5 a0_6 a0_7 a0_8 a0_9 l0_10 a1_0 a1_1 a1_2 a1_3 a1_4 a1_5 a1_6 a1_7 a1_8 a1_9 a1_10 a1_11 a1_12 a1_13 a1_14 l1_15 l1_16 l1_17 a1_18 a1_19 a1_20 a1_21 a1_22 a1_23)))) = some r := by rw [if_neg (show ¬ (false = true) by decide)] at H; exact H
        clear H
        have H := H1
        clear H1
        by_cases c118 : t805 = 0
        ·rw [if_pos c118] at H
         have c118b0 : (t805 == 0) = true := beq_iff_eq.mpr c118
         have c118b1 : (t805 != 0) = false := bne_eq_false_iff_eq.mpr c118
         clear c118
         by_cases c119 : t801 = 0
         ·rw [if_pos c119] at H
          have c119b0 : (t801 == 0) = true := beq_iff_eq.mpr c119
          have c119b1 : (t801 != 0) = false := bne_eq_false_iff_eq.mpr c119
          clear c119
          replace H := Option.bind_eq_some_iff.mp H
          obtain ⟨t833, A1200, H⟩ := H
          replace H : (some t833) = some r := H
          have A120 := Aside0.mk A1200
          clear A1200
          obtain rfl := Option.some.inj H
          have hnb121 := NB806_794.out
          have hnc121 := NB794_806.out
          have hnb122 := NB806_795.out
          have hnc122 := NB795_806.out
          have hnb123 := NB806_796.out
          have hnc123 := NB796_806.out
          have hnb124 := NB806_831.out
          have hnc124 := NB831_806.out
          obtain ⟨hcz125_0, hcz125_1, hcz125_2, hcz125_3, hcz125_4, hcz125_5⟩ := cells_6 BK806.out
          obtain ⟨hfz125_0, hfz125_1, hfz125_2, hfz125_3, hfz125_4, hfz125_5⟩ := frozen_6 BK806.out
          go_wp2_with (first | ((with_reducible refine gate_load (t := 24) (x := .tmp 4) rfl ?_); refine load_row_g (cs := ?_) ?hw 24 (.tmp 4) ?h2 gb794 ?hx 24 (fr := (0, 0)) (d := ?_) ?hg ?h3 ?h4 ?hi ?_; (case hw => first | (with_reducible rfl) | (go_simp; done) | rfl); (case h2 => rfl); (case hx => first | (with_reducible rfl) | (go_simp; done) | rfl); (case hg => (with_reducible repeat (first | refine blk_drewN ?_ _ | refine blk_drew ?_ | refine blk_alloc ?_ _)); with_reducible exact BK794.out); (case h3 => exact Try.underlying24); (case h4 => rfl); (case hi => kernel_rfl)) | ((with_reducible refine gate_load (t := 44) (x := .tmp 5) rfl ?_); refine load_row_g (cs := ?_) ?hw 44 (.tmp 5) ?h2 gb795 ?hx 44 (fr := (0, 0)) (d := ?_) ?hg ?h3 ?h4 ?hi ?_; (case hw => first | (with_reducible rfl) | (go_simp; done) | rfl); (case h2 => rfl); (case hx => first | (with_reducible rfl) | (go_simp; done) | rfl); (case hg => (with_reducible repeat (first | refine blk_drewN ?_ _ | refine blk_drew ?_ | refine blk_alloc ?_ _)); with_reducible exact BK795.out); (case h3 => exact Try.underlying44); (case h4 => rfl); (case hi => kernel_rfl)) | ((with_reducible refine gate_load (t := 76) (x := .tmp 7) rfl ?_); refine load_row_g (cs := ?_) ?hw 76 (.tmp 7) ?h2 gb796 ?hx 76 (fr := (0, 0)) (d := ?_) ?hg ?h3 ?h4 ?hi ?_; (case hw => first | (with_reducible rfl) | (go_simp; done) | rfl); (case h2 => rfl); (case hx => first | (with_reducible rfl) | (go_simp; done) | rfl); (case hg => (with_reducible repeat (first | refine blk_drewN ?_ _ | refine blk_drew ?_ | refine blk_alloc ?_ _)); with_reducible exact BK796.out); (case h3 => exact Try.underlying76); (case h4 => rfl); (case hi => kernel_rfl)) | ((with_reducible refine gate_load (t := 76) (x := .tmp 9) rfl ?_); refine load_row_g (cs := ?_) ?hw 76 (.tmp 9) ?h2 gb806 ?hx 76 (fr := (0, 0)) (d := ?_) ?hg ?h3 ?h4 ?hi ?_; (case hw => first | (with_reducible rfl) | (go_simp; done) | rfl); (case h2 => rfl); (case hx => first | (with_reducible rfl) | (go_simp; done) | rfl); (case hg => (with_reducible repeat (first | refine blk_drewN ?_ _ | refine blk_drew ?_ | refine blk_alloc ?_ _)); with_reducible exact BK806.out); (case h3 => exact Try.underlying76); (case h4 => rfl); (case hi => kernel_rfl)) | ((with_reducible refine gate_load (t := 76) (x := .tmp 12) rfl ?_); refine load_row_g (cs := ?_) ?hw 76 (.tmp 12) ?h2 gb831 ?hx 76 (fr := (0, 0)) (d := ?_) ?hg ?h3 ?h4 ?hi ?_; (case hw => first | (with_reducible rfl) | (go_simp; done) | rfl); (case h2 => rfl); (case hx => first | (with_reducible rfl) | (go_simp; done) | rfl); (case hg => (with_reducible repeat (first | refine blk_drewN ?_ _ | refine blk_drew ?_ | refine blk_alloc ?_ _)); with_reducible exact BK831.out); (case h3 => exact Try.underlying76); (case h4 => rfl); (case hi => kernel_rfl)) | (go_at_call 46; (with_reducible refine (bellwetherlaw23_known.calls kj39  t833 _ A120.out).mono ?_); rintro e w126 ⟨rfl, hb⟩; have n0_ := Aside0.mk (blk_below BK794.out hb); have n1_ := Aside0.mk (blk_below BK795.out hb); have n2_ := Aside0.mk (blk_below BK796.out hb); have n3_ := Aside0.mk (blk_below BK806.out hb); have n4_ := Aside0.mk (blk_below BK831.out hb); have n5_ := Aside0.mk (below_step HB.out hb); clear BK794; clear BK795; clear BK796; clear BK806; clear BK831; clear HB; have BK794 := n0_; have BK795 := n1_; have BK796 := n2_; have BK806 := n3_; have BK831 := n4_; have HB := n5_; clear n0_ n1_ n2_ n3_ n4_ n5_; (try clear hb); (try clear hb2); (try clear hk); (try clear hi)))
          go_ret
          exact ⟨by first | rfl | (simp [errW_none, errW_some] <;> rfl) | (simp [*, errW_none, errW_some] <;> rfl), by repeat (first | (with_reducible first | exact HB.out | apply below_alloc | apply pw_below_drewN | apply below_drew1 | refine below_set ?_ GE794.out | refine below_set ?_ GE795.out | refine below_set ?_ GE796.out | refine below_set ?_ GE806.out | refine below_set ?_ GE831.out) | exact HB.out)⟩
         ·rw [if_neg c119] at H
          exact absurd H (by simp)
        ·rw [if_neg c118] at H
         have c118b0 : (t805 == 0) = false := beq_eq_false_iff_ne.mpr c118
         have c118b1 : (t805 != 0) = true := bne_iff_ne.mpr c118
         have HC127 := Aside0.mk H
         clear H
         go_upto_region 11 with (fail)
         go_cut [118] (fun v118 wc => ∃ (kq : Nat) (x118_126 : Bool), v118 = .bool x118_126 ∧ Aside0 (bellwetherlaw23_GateGuards.j2 kq a2 t804 t805 x118_126 a0_0 a0_1 a0_2 a0_3 a0_4 a0_5 a0_6 a0_7 a0_8 a0_9 l0_10 a1_0 a1_1 a1_2 a1_3 a1_4 a1_5 a1_6 a1_7 a1_8 a1_9 a1_10 a1_11 a1_12 a1_13 a1_14 l1_15 l1_16 l1_17 a1_18 a1_19 a1_20 a1_21 a1_22 a1_23 = some r) ∧ Aside0 (kq ≤ kj39) ∧ Aside0 (wc.heap[gb794]? = some (.cells #[.int .i64 a0_0, .int .i64 a0_1, .int .i64 a0_2, .int .i64 a0_3, .int .i64 a0_4, .int .i64 a0_5, .int .i64 a0_6, .int .i64 a0_7, .int .i64 a0_8, .int .i64 a0_9, (.slice A0_10 l0_10.length c0_10)] 24 (0, 0))) ∧ Aside0 (wc.heap[gb795]? = some (.cells #[.int .i64 a1_0, .int .i64 a1_1, .int .i64 a1_2, .string a1_3, .int .i64 a1_4, .string a1_5, .string a1_6, .int .i64 a1_7, .int .i64 a1_8, .string a1_9, .string a1_10, .string a1_11, .string a1_12, .string a1_13, .string a1_14, (.slice A1_15 l1_15.length c1_15), (.slice A1_16 l1_16.length c1_16), (.slice A1_17 l1_17.length c1_17), .int .i64 a1_18, .int .i64 a1_19, .int .i64 a1_20, .int .i64 a1_21, .int .i64 a1_22, .int .i64 a1_23] 44 (0, 0))) ∧ Aside0 (wc.heap[gb796]? = some (.cells #[.string a3_0, .int .i64 a3_1, .string a3_2, .int .i64 a3_3, .int .i64 a3_4, .string a3_5] 76 (0, 0))) ∧ Aside0 (wc.heap[gb806]? = some (.cells #[.string t798, .int .i64 t799, .string t800, .int .i64 t801, .int .i64 t802, .string t803] 76 (0, 0))) ∧ Aside0 (wc.heap[gb831]? = some (.cells #[.string t825, .int .i64 t826, .string t827, .int .i64 t828, .int .i64 t829, .string t830] 76 (0, 0))) ∧ Aside0 (Below w.heap.size w wc))
         case first =>
          have H := HC127.out
          clear HC127
          replace H := Option.bind_eq_some_iff.mp H
          obtain ⟨t834, A1280, H⟩ := H
          replace H : (if t834 = a2 then (if t801 = t805 then ((bellwetherref23_Has.f a1_12 (wrap64 (t805 - 1))).bind fun t835 => (if t835 = true then (bellwetherlaw23_GateGuards.j2 kj39 a2 t804 t805 true a0_0 a0_1 a0_2 a0_3 a0_4 a0_5 a0_6 a0_7 a0_8 a0_9 l0_10 a1_0 a1_1 a1_2 a1_3 a1_4 a1_5 a1_6 a1_7 a1_8 a1_9 a1_10 a1_11 a1_12 a1_13 a1_14 l1_15 l1_16 l1_17 a1_18 a1_19 a1_20 a1_21 a1_22 a1_23) else ((bellwetherref23_Has.f t804 (wrap64 (t805 - 1))).bind fun t836 => (if t836 = true then (bellwetherlaw23_GateGuards.j2 kj39 a2 t804 t805 ((t804.size : Int) != (l0_10.length : Int)) a0_0 a0_1 a0_2 a0_3 a0_4 a0_5 a0_6 a0_7 a0_8 a0_9 l0_10 a1_0 a1_1 a1_2 a1_3 a1_4 a1_5 a1_6 a1_7 a1_8 a1_9 a1_10 a1_11 a1_12 a1_13 a1_14 l1_15 l1_16 l1_17 a1_18 a1_19 a1_20 a1_21 a1_22 a1_23) else (bellwetherlaw23_GateGuards.j2 kj39 a2 t804 t805 true a0_0 a0_1 a0_2 a0_3 a0_4 a0_5 a0_6 a0_7 a0_8 a0_9 l0_10 a1_0 a1_1 a1_2 a1_3 a1_4 a1_5 a1_6 a1_7 a1_8 a1_9 a1_10 a1_11 a1_12 a1_13 a1_14 l1_15 l1_16 l1_17 a1_18 a1_19 a1_20 a1_21 a1_22 a1_23))))) else (bellwetherlaw23_GateGuards.j2 kj39 a2 t804 t805 true a0_0 a0_1 a0_2 a0_3 a0_4 a0_5 a0_6 a0_7 a0_8 a0_9 l0_10 a1_0 a1_1 a1_2 a1_3 a1_4 a1_5 a1_6 a1_7 a1_8 a1_9 a1_10 a1_11 a1_12 a1_13 a1_14 l1_15 l1_16 l1_17 a1_18 a1_19 a1_20 a1_21 a1_22 a1_23)) else (bellwetherlaw23_GateGuards.j2 kj39 a2 t804 t805 true a0_0 a0_1 a0_2 a0_3 a0_4 a0_5 a0_6 a0_7 a0_8 a0_9 l0_10 a1_0 a1_1 a1_2 a1_3 a1_4 a1_5 a1_6 a1_7 a1_8 a1_9 a1_10 a1_11 a1_12 a1_13 a1_14 l1_15 l1_16 l1_17 a1_18 a1_19 a1_20 a1_21 a1_22 a1_23)) = some r := H
          have A128 := Aside0.mk A1280
          clear A1280
          by_cases c129 : t834 = a2
          ·rw [if_pos c129] at H
           have c129b0 : (t834 == a2) = true := beq_iff_eq.mpr c129
           have c129b1 : (t834 != a2) = false := bne_eq_false_iff_eq.mpr c129
           clear c129
           (first | rw [c129b0] | (simp only [i64_w, i32_w]; rw [c129b0]) | skip)
           by_cases c130 : t801 = t805
           ·rw [if_pos c130] at H
            have c130b0 : (t801 == t805) = true := beq_iff_eq.mpr c130
            have c130b1 : (t801 != t805) = false := bne_eq_false_iff_eq.mpr c130
            clear c130
            replace H := Option.bind_eq_some_iff.mp H
            obtain ⟨t835, A1310, H⟩ := H
            replace H : (if t835 = true then (bellwetherlaw23_GateGuards.j2 kj39 a2 t804 t805 true a0_0 a0_1 a0_2 a0_3 a0_4 a0_5 a0_6 a0_7 a0_8 a0_9 l0_10 a1_0 a1_1 a1_2 a1_3 a1_4 a1_5 a1_6 a1_7 a1_8 a1_9 a1_10 a1_11 a1_12 a1_13 a1_14 l1_15 l1_16 l1_17 a1_18 a1_19 a1_20 a1_21 a1_22 a1_23) else ((bellwetherref23_Has.f t804 (wrap64 (t805 - 1))).bind fun t836 => (if t836 = true then (bellwetherlaw23_GateGuards.j2 kj39 a2 t804 t805 ((t804.size : Int) != (l0_10.length : Int)) a0_0 a0_1 a0_2 a0_3 a0_4 a0_5 a0_6 a0_7 a0_8 a0_9 l0_10 a1_0 a1_1 a1_2 a1_3 a1_4 a1_5 a1_6 a1_7 a1_8 a1_9 a1_10 a1_11 a1_12 a1_13 a1_14 l1_15 l1_16 l1_17 a1_18 a1_19 a1_20 a1_21 a1_22 a1_23) else (bellwetherlaw23_GateGuards.j2 kj39 a2 t804 t805 true a0_0 a0_1 a0_2 a0_3 a0_4 a0_5 a0_6 a0_7 a0_8 a0_9 l0_10 a1_0 a1_1 a1_2 a1_3 a1_4 a1_5 a1_6 a1_7 a1_8 a1_9 a1_10 a1_11 a1_12 a1_13 a1_14 l1_15 l1_16 l1_17 a1_18 a1_19 a1_20 a1_21 a1_22 a1_23)))) = some r := H
            have A131 := Aside0.mk A1310
            clear A1310
            by_cases c132 : t835 = true
            ·subst c132
             have H1 : (bellwetherlaw23_GateGuards.j2 kj39 a2 t804 t805 true a0_0 a0_1 a0_2 a0_3 a0_4 a0_5 a0_6 a0_7 a0_8 a0_9 l0_10 a1_0 a1_1 a1_2 a1_3 a1_4 a1_5 a1_6 a1_7 a1_8 a1_9 a1_10 a1_11 a1_12 a1_13 a1_14 l1_15 l1_16 l1_17 a1_18 a1_19 a1_20 a1_21 a1_22 a1_23) = some r := by rw [if_pos rfl] at H; exact H
             clear H
             have H := H1
             clear H1
             have H' := Aside0.mk H
             clear H
             have hnb133 := NB794_795.out
             have hnc133 := NB795_794.out
             have hnb134 := NB794_796.out
             have hnc134 := NB796_794.out
             have hnb135 := NB794_806.out
             have hnc135 := NB806_794.out
             have hnb136 := NB794_831.out
             have hnc136 := NB831_794.out
             obtain ⟨hcz137_0, hcz137_1, hcz137_2, hcz137_3, hcz137_4, hcz137_5, hcz137_6, hcz137_7, hcz137_8, hcz137_9, hcz137_10⟩ := cells_11 BK794.out
             obtain ⟨hfz137_0, hfz137_1, hfz137_2, hfz137_3, hfz137_4, hfz137_5, hfz137_6, hfz137_7, hfz137_8, hfz137_9, hfz137_10⟩ := frozen_11 BK794.out
             go_wp2_with (first | ((with_reducible refine gate_load (t := 24) (x := .tmp 4) rfl ?_); refine load_row_g (cs := ?_) ?hw 24 (.tmp 4) ?h2 gb794 ?hx 24 (fr := (0, 0)) (d := ?_) ?hg ?h3 ?h4 ?hi ?_; (case hw => first | (with_reducible rfl) | (go_simp; done) | rfl); (case h2 => rfl); (case hx => first | (with_reducible rfl) | (go_simp; done) | rfl); (case hg => (with_reducible repeat (first | refine blk_drewN ?_ _ | refine blk_drew ?_ | refine blk_alloc ?_ _)); with_reducible exact BK794.out); (case h3 => exact Try.underlying24); (case h4 => rfl); (case hi => kernel_rfl)) | ((with_reducible refine gate_load (t := 44) (x := .tmp 5) rfl ?_); refine load_row_g (cs := ?_) ?hw 44 (.tmp 5) ?h2 gb795 ?hx 44 (fr := (0, 0)) (d := ?_) ?hg ?h3 ?h4 ?hi ?_; (case hw => first | (with_reducible rfl) | (go_simp; done) | rfl); (case h2 => rfl); (case hx => first | (with_reducible rfl) | (go_simp; done) | rfl); (case hg => (with_reducible repeat (first | refine blk_drewN ?_ _ | refine blk_drew ?_ | refine blk_alloc ?_ _)); with_reducible exact BK795.out); (case h3 => exact Try.underlying44); (case h4 => rfl); (case hi => kernel_rfl)) | ((with_reducible refine gate_load (t := 76) (x := .tmp 7) rfl ?_); refine load_row_g (cs := ?_) ?hw 76 (.tmp 7) ?h2 gb796 ?hx 76 (fr := (0, 0)) (d := ?_) ?hg ?h3 ?h4 ?hi ?_; (case hw => first | (with_reducible rfl) | (go_simp; done) | rfl); (case h2 => rfl); (case hx => first | (with_reducible rfl) | (go_simp; done) | rfl); (case hg => (with_reducible repeat (first | refine blk_drewN ?_ _ | refine blk_drew ?_ | refine blk_alloc ?_ _)); with_reducible exact BK796.out); (case h3 => exact Try.underlying76); (case h4 => rfl); (case hi => kernel_rfl)) | ((with_reducible refine gate_load (t := 76) (x := .tmp 9) rfl ?_); refine load_row_g (cs := ?_) ?hw 76 (.tmp 9) ?h2 gb806 ?hx 76 (fr := (0, 0)) (d := ?_) ?hg ?h3 ?h4 ?hi ?_; (case hw => first | (with_reducible rfl) | (go_simp; done) | rfl); (case h2 => rfl); (case hx => first | (with_reducible rfl) | (go_simp; done) | rfl); (case hg => (with_reducible repeat (first | refine blk_drewN ?_ _ | refine blk_drew ?_ | refine blk_alloc ?_ _)); with_reducible exact BK806.out); (case h3 => exact Try.underlying76); (case h4 => rfl); (case hi => kernel_rfl)) | ((with_reducible refine gate_load (t := 76) (x := .tmp 12) rfl ?_); refine load_row_g (cs := ?_) ?hw 76 (.tmp 12) ?h2 gb831 ?hx 76 (fr := (0, 0)) (d := ?_) ?hg ?h3 ?h4 ?hi ?_; (case hw => first | (with_reducible rfl) | (go_simp; done) | rfl); (case h2 => rfl); (case hx => first | (with_reducible rfl) | (go_simp; done) | rfl); (case hg => (with_reducible repeat (first | refine blk_drewN ?_ _ | refine blk_drew ?_ | refine blk_alloc ?_ _)); with_reducible exact BK831.out); (case h3 => exact Try.underlying76); (case h4 => rfl); (case hi => kernel_rfl)) | ((with_reducible refine gate_callee (f := 71) rfl ?_); refine goesL_ (some 88) rfl rfl Try.func71 (by kernel_rfl) rfl #[.agg #[.int .i64 a0_0, .int .i64 a0_1, .int .i64 a0_2, .int .i64 a0_3, .int .i64 a0_4, .int .i64 a0_5, .int .i64 a0_6, .int .i64 a0_7, .int .i64 a0_8, .int .i64 a0_9, .slice A0_10 l0_10.length c0_10], .int .i64 (wrap64 (t805 - 1))] rfl (by (try simp only [List.map_toArray, List.map_cons, List.map_nil]); first | done | rfl | (simp only [List.length_drop, List.length_take]; rfl)) ?_; (with_reducible refine (bellwetherref21_Owner.calls kj39 a0_0 a0_1 a0_2 a0_3 a0_4 a0_5 a0_6 a0_7 a0_8 a0_9 _ _ l0_10 (wrap64 (t805 - 1)) t834 _ ?side1 ?side2 A128.out).mono ?_); (case side1 => exact (Kd.C_below HR0_10.out HB.out)); (case side2 => exact HC0_10.out); rintro e w138 ⟨rfl, hb⟩; refine ⟨_, rfl, ?_⟩; have n0_ := Aside0.mk (blk_below BK794.out hb); have n1_ := Aside0.mk (blk_below BK795.out hb); have n2_ := Aside0.mk (blk_below BK796.out hb); have n3_ := Aside0.mk (blk_below BK806.out hb); have n4_ := Aside0.mk (blk_below BK831.out hb); have n5_ := Aside0.mk (below_step HB.out hb); clear BK794; clear BK795; clear BK796; clear BK806; clear BK831; clear HB; have BK794 := n0_; have BK795 := n1_; have BK796 := n2_; have BK806 := n3_; have BK831 := n4_; have HB := n5_; clear n0_ n1_ n2_ n3_ n4_ n5_; (try clear hb); (try clear hb2); (try clear hk); (try clear hi); have hnb139 := NB806_795.out; have hnc139 := NB795_806.out; have hnb140 := NB806_796.out; have hnc140 := NB796_806.out; have hnb141 := NB806_831.out; have hnc141 := NB831_806.out; have hall17_ := cells_6 BK806.out; have hall18_ := frozen_6 BK806.out; have hnb143 := NB795_796.out; have hnc143 := NB796_795.out; have hnb144 := NB795_831.out; have hnc144 := NB831_795.out; have hall19_ := cells_24 BK795.out; have hall20_ := frozen_24 BK795.out) | (go_at_call 72; (with_reducible refine (bellwetherref23_Has.calls a1_12 (wrap64 (t805 - 1)) true _ A131.out).mono ?_); rintro e w' ⟨rfl, ⟨nd, rfl⟩⟩))
             go_meet
             case rel => exact ⟨_, (true), (by first | rfl | (simp; done) | (simp [*]; done)), H', ⟨by have := HJ14.out; have := HJ39.out; first | omega | exact Nat.le_refl _⟩, ⟨by (with_reducible repeat (first | refine blk_drewN ?_ _ | refine blk_drew ?_ | refine blk_alloc ?_ _)); exact BK794.out⟩, ⟨by (with_reducible repeat (first | refine blk_drewN ?_ _ | refine blk_drew ?_ | refine blk_alloc ?_ _)); exact BK795.out⟩, ⟨by (with_reducible repeat (first | refine blk_drewN ?_ _ | refine blk_drew ?_ | refine blk_alloc ?_ _)); exact BK796.out⟩, ⟨by (with_reducible repeat (first | refine blk_drewN ?_ _ | refine blk_drew ?_ | refine blk_alloc ?_ _)); exact BK806.out⟩, ⟨by (with_reducible repeat (first | refine blk_drewN ?_ _ | refine blk_drew ?_ | refine blk_alloc ?_ _)); exact BK831.out⟩, ⟨by repeat (first | (with_reducible first | exact HB.out | apply below_alloc | apply pw_below_drewN | apply below_drew1 | refine below_set ?_ GE794.out | refine below_set ?_ GE795.out | refine below_set ?_ GE796.out | refine below_set ?_ GE806.out | refine below_set ?_ GE831.out) | exact HB.out)⟩⟩
            ·replace c132 := Bool.eq_false_iff.mpr c132
             subst c132
             have H1 : ((bellwetherref23_Has.f t804 (wrap64 (t805 - 1))).bind fun t836 => (if t836 = true then (bellwetherlaw23_GateGuards.j2 kj39 a2 t804 t805 ((t804.size : Int) != (l0_10.length : Int)) a0_0 a0_1 a0_2 a0_3 a0_4 a0_5 a0_6 a0_7 a0_8 a0_9 l0_10 a1_0 a1_1 a1_2 a1_3 a1_4 a1_5 a1_6 a1_7 a1_8 a1_9 a1_10 a1_11 a1_12 a1_13 a1_14 l1_15 l1_16 l1_17 a1_18 a1_19 a1_20 a1_21 a1_22 a1_23) else (bellwetherlaw23_GateGuards.j2 kj39 a2 t804 t805 true a0_0 a0_1 a0_2 a0_3 a0_4 a0_5 a0_6 a0_7 a0_8 a0_9 l0_10 a1_0 a1_1 a1_2 a1_3 a1_4 a1_5 a1_6 a1_7 a1_8 a1_9 a1_10 a1_11 a1_12 a1_13 a1_14 l1_15 l1_16 l1_17 a1_18 a1_19 a1_20 a1_21 a1_22 a1_23))) = some r := by rw [if_neg (show ¬ (false = true) by decide)] at H; exact H
             clear H
             have H := H1
             clear H1
             replace H := Option.bind_eq_some_iff.mp H
             obtain ⟨t836, A1460, H⟩ := H
             replace H : (if t836 = true then (bellwetherlaw23_GateGuards.j2 kj39 a2 t804 t805 ((t804.size : Int) != (l0_10.length : Int)) a0_0 a0_1 a0_2 a0_3 a0_4 a0_5 a0_6 a0_7 a0_8 a0_9 l0_10 a1_0 a1_1 a1_2 a1_3 a1_4 a1_5 a1_6 a1_7 a1_8 a1_9 a1_10 a1_11 a1_12 a1_13 a1_14 l1_15 l1_16 l1_17 a1_18 a1_19 a1_20 a1_21 a1_22 a1_23) else (bellwetherlaw23_GateGuards.j2 kj39 a2 t804 t805 true a0_0 a0_1 a0_2 a0_3 a0_4 a0_5 a0_6 a0_7 a0_8 a0_9 l0_10 a1_0 a1_1 a1_2 a1_3 a1_4 a1_5 a1_6 a1_7 a1_8 a1_9 a1_10 a1_11 a1_12 a1_13 a1_14 l1_15 l1_16 l1_17 a1_18 a1_19 a1_20 a1_21 a1_22 a1_23)) = some r := H
             have A146 := Aside0.mk A1460
             clear A1460
             by_cases c147 : t836 = true
             ·subst c147
              have H1 : (bellwetherlaw23_GateGuards.j2 kj39 a2 t804 t805 ((t804.size : Int) != (l0_10.length : Int)) a0_0 a0_1 a0_2 a0_3 a0_4 a0_5 a0_6 a0_7 a0_8 a0_9 l0_10 a1_0 a1_1 a1_2 a1_3 a1_4 a1_5 a1_6 a1_7 a1_8 a1_9 a1_10 a1_11 a1_12 a1_13 a1_14 l1_15 l1_16 l1_17 a1_18 a1_19 a1_20 a1_21 a1_22 a1_23) = some r := by rw [if_pos rfl] at H; exact H
              clear H
              have H := H1
              clear H1
              have H' := Aside0.mk H
              clear H
              have hnb148 := NB794_795.out
              have hnc148 := NB795_794.out
              have hnb149 := NB794_796.out
              have hnc149 := NB796_794.out
              have hnb150 := NB794_806.out
              have hnc150 := NB806_794.out
              have hnb151 := NB794_831.out
              have hnc151 := NB831_794.out
              obtain ⟨hcz152_0, hcz152_1, hcz152_2, hcz152_3, hcz152_4, hcz152_5, hcz152_6, hcz152_7, hcz152_8, hcz152_9, hcz152_10⟩ := cells_11 BK794.out
              obtain ⟨hfz152_0, hfz152_1, hfz152_2, hfz152_3, hfz152_4, hfz152_5, hfz152_6, hfz152_7, hfz152_8, hfz152_9, hfz152_10⟩ := frozen_11 BK794.out
              go_wp2_with (first | ((with_reducible refine gate_load (t := 24) (x := .tmp 4) rfl ?_); refine load_row_g (cs := ?_) ?hw 24 (.tmp 4) ?h2 gb794 ?hx 24 (fr := (0, 0)) (d := ?_) ?hg ?h3 ?h4 ?hi ?_; (case hw => first | (with_reducible rfl) | (go_simp; done) | rfl); (case h2 => rfl); (case hx => first | (with_reducible rfl) | (go_simp; done) | rfl); (case hg => (with_reducible repeat (first | refine blk_drewN ?_ _ | refine blk_drew ?_ | refine blk_alloc ?_ _)); with_reducible exact BK794.out); (case h3 => exact Try.underlying24); (case h4 => rfl); (case hi => kernel_rfl)) | ((with_reducible refine gate_load (t := 44) (x := .tmp 5) rfl ?_); refine load_row_g (cs := ?_) ?hw 44 (.tmp 5) ?h2 gb795 ?hx 44 (fr := (0, 0)) (d := ?_) ?hg ?h3 ?h4 ?hi ?_; (case hw => first | (with_reducible rfl) | (go_simp; done) | rfl); (case h2 => rfl); (case hx => first | (with_reducible rfl) | (go_simp; done) | rfl); (case hg => (with_reducible repeat (first | refine blk_drewN ?_ _ | refine blk_drew ?_ | refine blk_alloc ?_ _)); with_reducible exact BK795.out); (case h3 => exact Try.underlying44); (case h4 => rfl); (case hi => kernel_rfl)) | ((with_reducible refine gate_load (t := 76) (x := .tmp 7) rfl ?_); refine load_row_g (cs := ?_) ?hw 76 (.tmp 7) ?h2 gb796 ?hx 76 (fr := (0, 0)) (d := ?_) ?hg ?h3 ?h4 ?hi ?_; (case hw => first | (with_reducible rfl) | (go_simp; done) | rfl); (case h2 => rfl); (case hx => first | (with_reducible rfl) | (go_simp; done) | rfl); (case hg => (with_reducible repeat (first | refine blk_drewN ?_ _ | refine blk_drew ?_ | refine blk_alloc ?_ _)); with_reducible exact BK796.out); (case h3 => exact Try.underlying76); (case h4 => rfl); (case hi => kernel_rfl)) | ((with_reducible refine gate_load (t := 76) (x := .tmp 9) rfl ?_); refine load_row_g (cs := ?_) ?hw 76 (.tmp 9) ?h2 gb806 ?hx 76 (fr := (0, 0)) (d := ?_) ?hg ?h3 ?h4 ?hi ?_; (case hw => first | (with_reducible rfl) | (go_simp; done) | rfl); (case h2 => rfl); (case hx => first | (with_reducible rfl) | (go_simp; done) | rfl); (case hg => (with_reducible repeat (first | refine blk_drewN ?_ _ | refine blk_drew ?_ | refine blk_alloc ?_ _)); with_reducible exact BK806.out); (case h3 => exact Try.underlying76); (case h4 => rfl); (case hi => kernel_rfl)) | ((with_reducible refine gate_load (t := 76) (x := .tmp 12) rfl ?_); refine load_row_g (cs := ?_) ?hw 76 (.tmp 12) ?h2 gb831 ?hx 76 (fr := (0, 0)) (d := ?_) ?hg ?h3 ?h4 ?hi ?_; (case hw => first | (with_reducible rfl) | (go_simp; done) | rfl); (case h2 => rfl); (case hx => first | (with_reducible rfl) | (go_simp; done) | rfl); (case hg => (with_reducible repeat (first | refine blk_drewN ?_ _ | refine blk_drew ?_ | refine blk_alloc ?_ _)); with_reducible exact BK831.out); (case h3 => exact Try.underlying76); (case h4 => rfl); (case hi => kernel_rfl)) | ((with_reducible refine gate_callee (f := 71) rfl ?_); refine goesL_ (some 88) rfl rfl Try.func71 (by kernel_rfl) rfl #[.agg #[.int .i64 a0_0, .int .i64 a0_1, .int .i64 a0_2, .int .i64 a0_3, .int .i64 a0_4, .int .i64 a0_5, .int .i64 a0_6, .int .i64 a0_7, .int .i64 a0_8, .int .i64 a0_9, .slice A0_10 l0_10.length c0_10], .int .i64 (wrap64 (t805 - 1))] rfl (by (try simp only [List.map_toArray, List.map_cons, List.map_nil]); first | done | rfl | (simp only [List.length_drop, List.length_take]; rfl)) ?_; (with_reducible refine (bellwetherref21_Owner.calls kj39 a0_0 a0_1 a0_2 a0_3 a0_4 a0_5 a0_6 a0_7 a0_8 a0_9 _ _ l0_10 (wrap64 (t805 - 1)) t834 _ ?side1 ?side2 A128.out).mono ?_); (case side1 => exact (Kd.C_below HR0_10.out HB.out)); (case side2 => exact HC0_10.out); rintro e w153 ⟨rfl, hb⟩; refine ⟨_, rfl, ?_⟩; have n0_ := Aside0.mk (blk_below BK794.out hb); have n1_ := Aside0.mk (blk_below BK795.out hb); have n2_ := Aside0.mk (blk_below BK796.out hb); have n3_ := Aside0.mk (blk_below BK806.out hb); have n4_ := Aside0.mk (blk_below BK831.out hb); have n5_ := Aside0.mk (below_step HB.out hb); clear BK794; clear BK795; clear BK796; clear BK806; clear BK831; clear HB; have BK794 := n0_; have BK795 := n1_; have BK796 := n2_; have BK806 := n3_; have BK831 := n4_; have HB := n5_; clear n0_ n1_ n2_ n3_ n4_ n5_; (try clear hb); (try clear hb2); (try clear hk); (try clear hi); have hnb154 := NB806_795.out; have hnc154 := NB795_806.out; have hnb155 := NB806_796.out; have hnc155 := NB796_806.out; have hnb156 := NB806_831.out; have hnc156 := NB831_806.out; have hall21_ := cells_6 BK806.out; have hall22_ := frozen_6 BK806.out; have hnb158 := NB795_796.out; have hnc158 := NB796_795.out; have hnb159 := NB795_831.out; have hnc159 := NB831_795.out; have hall23_ := cells_24 BK795.out; have hall24_ := frozen_24 BK795.out) | (go_at_call 72; (with_reducible refine (bellwetherref23_Has.calls a1_12 (wrap64 (t805 - 1)) false _ A131.out).mono ?_); rintro e w' ⟨rfl, ⟨nd, rfl⟩⟩) | (go_at_call 72; (with_reducible refine (bellwetherref23_Has.calls t804 (wrap64 (t805 - 1)) true _ A146.out).mono ?_); rintro e w' ⟨rfl, ⟨nd, rfl⟩⟩; have hall25_ := cells_11 BK794.out; have hall26_ := frozen_11 BK794.out))
              go_meet
              case rel => exact ⟨_, (((t804.size : Int) != (l0_10.length : Int))), (by first | rfl | (simp; done) | (simp [*]; done)), H', ⟨by have := HJ14.out; have := HJ39.out; first | omega | exact Nat.le_refl _⟩, ⟨by (with_reducible repeat (first | refine blk_drewN ?_ _ | refine blk_drew ?_ | refine blk_alloc ?_ _)); exact BK794.out⟩, ⟨by (with_reducible repeat (first | refine blk_drewN ?_ _ | refine blk_drew ?_ | refine blk_alloc ?_ _)); exact BK795.out⟩, ⟨by (with_reducible repeat (first | refine blk_drewN ?_ _ | refine blk_drew ?_ | refine blk_alloc ?_ _)); exact BK796.out⟩, ⟨by (with_reducible repeat (first | refine blk_drewN ?_ _ | refine blk_drew ?_ | refine blk_alloc ?_ _)); exact BK806.out⟩, ⟨by (with_reducible repeat (first | refine blk_drewN ?_ _ | refine blk_drew ?_ | refine blk_alloc ?_ _)); exact BK831.out⟩, ⟨by repeat (first | (with_reducible first | exact HB.out | apply below_alloc | apply pw_below_drewN | apply below_drew1 | refine below_set ?_ GE794.out | refine below_set ?_ GE795.out | refine below_set ?_ GE796.out | refine below_set ?_ GE806.out | refine below_set ?_ GE831.out) | exact HB.out)⟩⟩
             ·replace c147 := Bool.eq_false_iff.mpr c147
              subst c147
              have H1 : (bellwetherlaw23_GateGuards.j2 kj39 a2 t804 t805 true a0_0 a0_1 a0_2 a0_3 a0_4 a0_5 a0_6 a0_7 a0_8 a0_9 l0_10 a1_0 a1_1 a1_2 a1_3 a1_4 a1_5 a1_6 a1_7 a1_8 a1_9 a1_10 a1_11 a1_12 a1_13 a1_14 l1_15 l1_16 l1_17 a1_18 a1_19 a1_20 a1_21 a1_22 a1_23) = some r := by rw [if_neg (show ¬ (false = true) by decide)] at H; exact H
              clear H
              have H := H1
              clear H1
              have H' := Aside0.mk H
              clear H
              have hnb162 := NB794_795.out
              have hnc162 := NB795_794.out
              have hnb163 := NB794_796.out
              have hnc163 := NB796_794.out
              have hnb164 := NB794_806.out
              have hnc164 := NB806_794.out
              have hnb165 := NB794_831.out
              have hnc165 := NB831_794.out
              obtain ⟨hcz166_0, hcz166_1, hcz166_2, hcz166_3, hcz166_4, hcz166_5, hcz166_6, hcz166_7, hcz166_8, hcz166_9, hcz166_10⟩ := cells_11 BK794.out
              obtain ⟨hfz166_0, hfz166_1, hfz166_2, hfz166_3, hfz166_4, hfz166_5, hfz166_6, hfz166_7, hfz166_8, hfz166_9, hfz166_10⟩ := frozen_11 BK794.out
              go_wp2_with (first | ((with_reducible refine gate_load (t := 24) (x := .tmp 4) rfl ?_); refine load_row_g (cs := ?_) ?hw 24 (.tmp 4) ?h2 gb794 ?hx 24 (fr := (0, 0)) (d := ?_) ?hg ?h3 ?h4 ?hi ?_; (case hw => first | (with_reducible rfl) | (go_simp; done) | rfl); (case h2 => rfl); (case hx => first | (with_reducible rfl) | (go_simp; done) | rfl); (case hg => (with_reducible repeat (first | refine blk_drewN ?_ _ | refine blk_drew ?_ | refine blk_alloc ?_ _)); with_reducible exact BK794.out); (case h3 => exact Try.underlying24); (case h4 => rfl); (case hi => kernel_rfl)) | ((with_reducible refine gate_load (t := 44) (x := .tmp 5) rfl ?_); refine load_row_g (cs := ?_) ?hw 44 (.tmp 5) ?h2 gb795 ?hx 44 (fr := (0, 0)) (d := ?_) ?hg ?h3 ?h4 ?hi ?_; (case hw => first | (with_reducible rfl) | (go_simp; done) | rfl); (case h2 => rfl); (case hx => first | (with_reducible rfl) | (go_simp; done) | rfl); (case hg => (with_reducible repeat (first | refine blk_drewN ?_ _ | refine blk_drew ?_ | refine blk_alloc ?_ _)); with_reducible exact BK795.out); (case h3 => exact Try.underlying44); (case h4 => rfl); (case hi => kernel_rfl)) | ((with_reducible refine gate_load (t := 76) (x := .tmp 7) rfl ?_); refine load_row_g (cs := ?_) ?hw 76 (.tmp 7) ?h2 gb796 ?hx 76 (fr := (0, 0)) (d := ?_) ?hg ?h3 ?h4 ?hi ?_; (case hw => first | (with_reducible rfl) | (go_simp; done) | rfl); (case h2 => rfl); (case hx => first | (with_reducible rfl) | (go_simp; done) | rfl); (case hg => (with_reducible repeat (first | refine blk_drewN ?_ _ | refine blk_drew ?_ | refine blk_alloc ?_ _)); with_reducible exact BK796.out); (case h3 => exact Try.underlying76); (case h4 => rfl); (case hi => kernel_rfl)) | ((with_reducible refine gate_load (t := 76) (x := .tmp 9) rfl ?_); refine load_row_g (cs := ?_) ?hw 76 (.tmp 9) ?h2 gb806 ?hx 76 (fr := (0, 0)) (d := ?_) ?hg ?h3 ?h4 ?hi ?_; (case hw => first | (with_reducible rfl) | (go_simp; done) | rfl); (case h2 => rfl); (case hx => first | (with_reducible rfl) | (go_simp; done) | rfl); (case hg => (with_reducible repeat (first | refine blk_drewN ?_ _ | refine blk_drew ?_ | refine blk_alloc ?_ _)); with_reducible exact BK806.out); (case h3 => exact Try.underlying76); (case h4 => rfl); (case hi => kernel_rfl)) | ((with_reducible refine gate_load (t := 76) (x := .tmp 12) rfl ?_); refine load_row_g (cs := ?_) ?hw 76 (.tmp 12) ?h2 gb831 ?hx 76 (fr := (0, 0)) (d := ?_) ?hg ?h3 ?h4 ?hi ?_; (case hw => first | (with_reducible rfl) | (go_simp; done) | rfl); (case h2 => rfl); (case hx => first | (with_reducible rfl) | (go_simp; done) | rfl); (case hg => (with_reducible repeat (first | refine blk_drewN ?_ _ | refine blk_drew ?_ | refine blk_alloc ?_ _)); with_reducible exact BK831.out); (case h3 => exact Try.underlying76); (case h4 => rfl); (case hi => kernel_rfl)) | ((with_reducible refine gate_callee (f := 71) rfl ?_); refine goesL_ (some 88) rfl rfl Try.func71 (by kernel_rfl) rfl #[.agg #[.int .i64 a0_0, .int .i64 a0_1, .int .i64 a0_2, .int .i64 a0_3, .int .i64 a0_4, .int .i64 a0_5, .int .i64 a0_6, .int .i64 a0_7, .int .i64 a0_8, .int .i64 a0_9, .slice A0_10 l0_10.length c0_10], .int .i64 (wrap64 (t805 - 1))] rfl (by (try simp only [List.map_toArray, List.map_cons, List.map_nil]); first | done | rfl | (simp only [List.length_drop, List.length_take]; rfl)) ?_; (with_reducible refine (bellwetherref21_Owner.calls kj39 a0_0 a0_1 a0_2 a0_3 a0_4 a0_5 a0_6 a0_7 a0_8 a0_9 _ _ l0_10 (wrap64 (t805 - 1)) t834 _ ?side1 ?side2 A128.out).mono ?_); (case side1 => exact (Kd.C_below HR0_10.out HB.out)); (case side2 => exact HC0_10.out); rintro e w167 ⟨rfl, hb⟩; refine ⟨_, rfl, ?_⟩; have n0_ := Aside0.mk (blk_below BK794.out hb); have n1_ := Aside0.mk (blk_below BK795.out hb); have n2_ := Aside0.mk (blk_below BK796.out hb); have n3_ := Aside0.mk (blk_below BK806.out hb); have n4_ := Aside0.mk (blk_below BK831.out hb); have n5_ := Aside0.mk (below_step HB.out hb); clear BK794; clear BK795; clear BK796; clear BK806; clear BK831; clear HB; have BK794 := n0_; have BK795 := n1_; have BK796 := n2_; have BK806 := n3_; have BK831 := n4_; have HB := n5_; clear n0_ n1_ n2_ n3_ n4_ n5_; (try clear hb); (try clear hb2); (try clear hk); (try clear hi); have hnb168 := NB806_795.out; have hnc168 := NB795_806.out; have hnb169 := NB806_796.out; have hnc169 := NB796_806.out; have hnb170 := NB806_831.out; have hnc170 := NB831_806.out; have hall27_ := cells_6 BK806.out; have hall28_ := frozen_6 BK806.out; have hnb172 := NB795_796.out; have hnc172 := NB796_795.out; have hnb173 := NB795_831.out; have hnc173 := NB831_795.out; have hall29_ := cells_24 BK795.out; have hall30_ := frozen_24 BK795.out) | (go_at_call 72; (with_reducible refine (bellwetherref23_Has.calls a1_12 (wrap64 (t805 - 1)) false _ A131.out).mono ?_); rintro e w' ⟨rfl, ⟨nd, rfl⟩⟩) | (go_at_call 72; (with_reducible refine (bellwetherref23_Has.calls t804 (wrap64 (t805 - 1)) false _ A146.out).mono ?_); rintro e w' ⟨rfl, ⟨nd, rfl⟩⟩))
              go_meet
              case rel => exact ⟨_, (true), (by first | rfl | (simp; done) | (simp [*]; done)), H', ⟨by have := HJ14.out; have := HJ39.out; first | omega | exact Nat.le_refl _⟩, ⟨by (with_reducible repeat (first | refine blk_drewN ?_ _ | refine blk_drew ?_ | refine blk_alloc ?_ _)); exact BK794.out⟩, ⟨by (with_reducible repeat (first | refine blk_drewN ?_ _ | refine blk_drew ?_ | refine blk_alloc ?_ _)); exact BK795.out⟩, ⟨by (with_reducible repeat (first | refine blk_drewN ?_ _ | refine blk_drew ?_ | refine blk_alloc ?_ _)); exact BK796.out⟩, ⟨by (with_reducible repeat (first | refine blk_drewN ?_ _ | refine blk_drew ?_ | refine blk_alloc ?_ _)); exact BK806.out⟩, ⟨by (with_reducible repeat (first | refine blk_drewN ?_ _ | refine blk_drew ?_ | refine blk_alloc ?_ _)); exact BK831.out⟩, ⟨by repeat (first | (with_reducible first | exact HB.out | apply below_alloc | apply pw_below_drewN | apply below_drew1 | refine below_set ?_ GE794.out | refine below_set ?_ GE795.out | refine below_set ?_ GE796.out | refine below_set ?_ GE806.out | refine below_set ?_ GE831.out) | exact HB.out)⟩⟩
           ·rw [if_neg c130] at H
            have c130b0 : (t801 == t805) = false := beq_eq_false_iff_ne.mpr c130
            have c130b1 : (t801 != t805) = true := bne_iff_ne.mpr c130
            have H' := Aside0.mk H
            clear H
            have hnb175 := NB794_795.out
            have hnc175 := NB795_794.out
            have hnb176 := NB794_796.out
            have hnc176 := NB796_794.out
            have hnb177 := NB794_806.out
            have hnc177 := NB806_794.out
            have hnb178 := NB794_831.out
            have hnc178 := NB831_794.out
            obtain ⟨hcz179_0, hcz179_1, hcz179_2, hcz179_3, hcz179_4, hcz179_5, hcz179_6, hcz179_7, hcz179_8, hcz179_9, hcz179_10⟩ := cells_11 BK794.out
            obtain ⟨hfz179_0, hfz179_1, hfz179_2, hfz179_3, hfz179_4, hfz179_5, hfz179_6, hfz179_7, hfz179_8, hfz179_9, hfz179_10⟩ := frozen_11 BK794.out
            go_wp2_with (first | ((with_reducible refine gate_load (t := 24) (x := .tmp 4) rfl ?_); refine load_row_g (cs := ?_) ?hw 24 (.tmp 4) ?h2 gb794 ?hx 24 (fr := (0, 0)) (d := ?_) ?hg ?h3 ?h4 ?hi ?_; (case hw => first | (with_reducible rfl) | (go_simp; done) | rfl); (case h2 => rfl); (case hx => first | (with_reducible rfl) | (go_simp; done) | rfl); (case hg => (with_reducible repeat (first | refine blk_drewN ?_ _ | refine blk_drew ?_ | refine blk_alloc ?_ _)); with_reducible exact BK794.out); (case h3 => exact Try.underlying24); (case h4 => rfl); (case hi => kernel_rfl)) | ((with_reducible refine gate_load (t := 44) (x := .tmp 5) rfl ?_); refine load_row_g (cs := ?_) ?hw 44 (.tmp 5) ?h2 gb795 ?hx 44 (fr := (0, 0)) (d := ?_) ?hg ?h3 ?h4 ?hi ?_; (case hw => first | (with_reducible rfl) | (go_simp; done) | rfl); (case h2 => rfl); (case hx => first | (with_reducible rfl) | (go_simp; done) | rfl); (case hg => (with_reducible repeat (first | refine blk_drewN ?_ _ | refine blk_drew ?_ | refine blk_alloc ?_ _)); with_reducible exact BK795.out); (case h3 => exact Try.underlying44); (case h4 => rfl); (case hi => kernel_rfl)) | ((with_reducible refine gate_load (t := 76) (x := .tmp 7) rfl ?_); refine load_row_g (cs := ?_) ?hw 76 (.tmp 7) ?h2 gb796 ?hx 76 (fr := (0, 0)) (d := ?_) ?hg ?h3 ?h4 ?hi ?_; (case hw => first | (with_reducible rfl) | (go_simp; done) | rfl); (case h2 => rfl); (case hx => first | (with_reducible rfl) | (go_simp; done) | rfl); (case hg => (with_reducible repeat (first | refine blk_drewN ?_ _ | refine blk_drew ?_ | refine blk_alloc ?_ _)); with_reducible exact BK796.out); (case h3 => exact Try.underlying76); (case h4 => rfl); (case hi => kernel_rfl)) | ((with_reducible refine gate_load (t := 76) (x := .tmp 9) rfl ?_); refine load_row_g (cs := ?_) ?hw 76 (.tmp 9) ?h2 gb806 ?hx 76 (fr := (0, 0)) (d := ?_) ?hg ?h3 ?h4 ?hi ?_; (case hw => first | (with_reducible rfl) | (go_simp; done) | rfl); (case h2 => rfl); (case hx => first | (with_reducible rfl) | (go_simp; done) | rfl); (case hg => (with_reducible repeat (first | refine blk_drewN ?_ _ | refine blk_drew ?_ | refine blk_alloc ?_ _)); with_reducible exact BK806.out); (case h3 => exact Try.underlying76); (case h4 => rfl); (case hi => kernel_rfl)) | ((with_reducible refine gate_load (t := 76) (x := .tmp 12) rfl ?_); refine load_row_g (cs := ?_) ?hw 76 (.tmp 12) ?h2 gb831 ?hx 76 (fr := (0, 0)) (d := ?_) ?hg ?h3 ?h4 ?hi ?_; (case hw => first | (with_reducible rfl) | (go_simp; done) | rfl); (case h2 => rfl); (case hx => first | (with_reducible rfl) | (go_simp; done) | rfl); (case hg => (with_reducible repeat (first | refine blk_drewN ?_ _ | refine blk_drew ?_ | refine blk_alloc ?_ _)); with_reducible exact BK831.out); (case h3 => exact Try.underlying76); (case h4 => rfl); (case hi => kernel_rfl)) | ((with_reducible refine gate_callee (f := 71) rfl ?_); refine goesL_ (some 88) rfl rfl Try.func71 (by kernel_rfl) rfl #[.agg #[.int .i64 a0_0, .int .i64 a0_1, .int .i64 a0_2, .int .i64 a0_3, .int .i64 a0_4, .int .i64 a0_5, .int .i64 a0_6, .int .i64 a0_7, .int .i64 a0_8, .int .i64 a0_9, .slice A0_10 l0_10.length c0_10], .int .i64 (wrap64 (t805 - 1))] rfl (by (try simp only [List.map_toArray, List.map_cons, List.map_nil]); first | done | rfl | (simp only [List.length_drop, List.length_take]; rfl)) ?_; (with_reducible refine (bellwetherref21_Owner.calls kj39 a0_0 a0_1 a0_2 a0_3 a0_4 a0_5 a0_6 a0_7 a0_8 a0_9 _ _ l0_10 (wrap64 (t805 - 1)) t834 _ ?side1 ?side2 A128.out).mono ?_); (case side1 => exact (Kd.C_below HR0_10.out HB.out)); (case side2 => exact HC0_10.out); rintro e w180 ⟨rfl, hb⟩; refine ⟨_, rfl, ?_⟩; have n0_ := Aside0.mk (blk_below BK794.out hb); have n1_ := Aside0.mk (blk_below BK795.out hb); have n2_ := Aside0.mk (blk_below BK796.out hb); have n3_ := Aside0.mk (blk_below BK806.out hb); have n4_ := Aside0.mk (blk_below BK831.out hb); have n5_ := Aside0.mk (below_step HB.out hb); clear BK794; clear BK795; clear BK796; clear BK806; clear BK831; clear HB; have BK794 := n0_; have BK795 := n1_; have BK796 := n2_; have BK806 := n3_; have BK831 := n4_; have HB := n5_; clear n0_ n1_ n2_ n3_ n4_ n5_; (try clear hb); (try clear hb2); (try clear hk); (try clear hi); have hnb181 := NB806_795.out; have hnc181 := NB795_806.out; have hnb182 := NB806_796.out; have hnc182 := NB796_806.out; have hnb183 := NB806_831.out; have hnc183 := NB831_806.out; have hall31_ := cells_6 BK806.out; have hall32_ := frozen_6 BK806.out))
            go_meet
            case rel => exact ⟨_, (true), (by first | rfl | (simp; done) | (simp [*]; done)), H', ⟨by have := HJ14.out; have := HJ39.out; first | omega | exact Nat.le_refl _⟩, ⟨by (with_reducible repeat (first | refine blk_drewN ?_ _ | refine blk_drew ?_ | refine blk_alloc ?_ _)); exact BK794.out⟩, ⟨by (with_reducible repeat (first | refine blk_drewN ?_ _ | refine blk_drew ?_ | refine blk_alloc ?_ _)); exact BK795.out⟩, ⟨by (with_reducible repeat (first | refine blk_drewN ?_ _ | refine blk_drew ?_ | refine blk_alloc ?_ _)); exact BK796.out⟩, ⟨by (with_reducible repeat (first | refine blk_drewN ?_ _ | refine blk_drew ?_ | refine blk_alloc ?_ _)); exact BK806.out⟩, ⟨by (with_reducible repeat (first | refine blk_drewN ?_ _ | refine blk_drew ?_ | refine blk_alloc ?_ _)); exact BK831.out⟩, ⟨by repeat (first | (with_reducible first | exact HB.out | apply below_alloc | apply pw_below_drewN | apply below_drew1 | refine below_set ?_ GE794.out | refine below_set ?_ GE795.out | refine below_set ?_ GE796.out | refine below_set ?_ GE806.out | refine below_set ?_ GE831.out) | exact HB.out)⟩⟩
          ·rw [if_neg c129] at H
           have c129b0 : (t834 == a2) = false := beq_eq_false_iff_ne.mpr c129
           have c129b1 : (t834 != a2) = true := bne_iff_ne.mpr c129
           (first | rw [c129b0] | (simp only [i64_w, i32_w]; rw [c129b0]) | skip)
           have H' := Aside0.mk H
           clear H
           have hnb185 := NB794_795.out
           have hnc185 := NB795_794.out
           have hnb186 := NB794_796.out
           have hnc186 := NB796_794.out
           have hnb187 := NB794_806.out
           have hnc187 := NB806_794.out
           have hnb188 := NB794_831.out
           have hnc188 := NB831_794.out
           obtain ⟨hcz189_0, hcz189_1, hcz189_2, hcz189_3, hcz189_4, hcz189_5, hcz189_6, hcz189_7, hcz189_8, hcz189_9, hcz189_10⟩ := cells_11 BK794.out
           obtain ⟨hfz189_0, hfz189_1, hfz189_2, hfz189_3, hfz189_4, hfz189_5, hfz189_6, hfz189_7, hfz189_8, hfz189_9, hfz189_10⟩ := frozen_11 BK794.out
           go_wp2_with (first | ((with_reducible refine gate_load (t := 24) (x := .tmp 4) rfl ?_); refine load_row_g (cs := ?_) ?hw 24 (.tmp 4) ?h2 gb794 ?hx 24 (fr := (0, 0)) (d := ?_) ?hg ?h3 ?h4 ?hi ?_; (case hw => first | (with_reducible rfl) | (go_simp; done) | rfl); (case h2 => rfl); (case hx => first | (with_reducible rfl) | (go_simp; done) | rfl); (case hg => (with_reducible repeat (first | refine blk_drewN ?_ _ | refine blk_drew ?_ | refine blk_alloc ?_ _)); with_reducible exact BK794.out); (case h3 => exact Try.underlying24); (case h4 => rfl); (case hi => kernel_rfl)) | ((with_reducible refine gate_load (t := 44) (x := .tmp 5) rfl ?_); refine load_row_g (cs := ?_) ?hw 44 (.tmp 5) ?h2 gb795 ?hx 44 (fr := (0, 0)) (d := ?_) ?hg ?h3 ?h4 ?hi ?_; (case hw => first | (with_reducible rfl) | (go_simp; done) | rfl); (case h2 => rfl); (case hx => first | (with_reducible rfl) | (go_simp; done) | rfl); (case hg => (with_reducible repeat (first | refine blk_drewN ?_ _ | refine blk_drew ?_ | refine blk_alloc ?_ _)); with_reducible exact BK795.out); (case h3 => exact Try.underlying44); (case h4 => rfl); (case hi => kernel_rfl)) | ((with_reducible refine gate_load (t := 76) (x := .tmp 7) rfl ?_); refine load_row_g (cs := ?_) ?hw 76 (.tmp 7) ?h2 gb796 ?hx 76 (fr := (0, 0)) (d := ?_) ?hg ?h3 ?h4 ?hi ?_; (case hw => first | (with_reducible rfl) | (go_simp; done) | rfl); (case h2 => rfl); (case hx => first | (with_reducible rfl) | (go_simp; done) | rfl); (case hg => (with_reducible repeat (first | refine blk_drewN ?_ _ | refine blk_drew ?_ | refine blk_alloc ?_ _)); with_reducible exact BK796.out); (case h3 => exact Try.underlying76); (case h4 => rfl); (case hi => kernel_rfl)) | ((with_reducible refine gate_load (t := 76) (x := .tmp 9) rfl ?_); refine load_row_g (cs := ?_) ?hw 76 (.tmp 9) ?h2 gb806 ?hx 76 (fr := (0, 0)) (d := ?_) ?hg ?h3 ?h4 ?hi ?_; (case hw => first | (with_reducible rfl) | (go_simp; done) | rfl); (case h2 => rfl); (case hx => first | (with_reducible rfl) | (go_simp; done) | rfl); (case hg => (with_reducible repeat (first | refine blk_drewN ?_ _ | refine blk_drew ?_ | refine blk_alloc ?_ _)); with_reducible exact BK806.out); (case h3 => exact Try.underlying76); (case h4 => rfl); (case hi => kernel_rfl)) | ((with_reducible refine gate_load (t := 76) (x := .tmp 12) rfl ?_); refine load_row_g (cs := ?_) ?hw 76 (.tmp 12) ?h2 gb831 ?hx 76 (fr := (0, 0)) (d := ?_) ?hg ?h3 ?h4 ?hi ?_; (case hw => first | (with_reducible rfl) | (go_simp; done) | rfl); (case h2 => rfl); (case hx => first | (with_reducible rfl) | (go_simp; done) | rfl); (case hg => (with_reducible repeat (first | refine blk_drewN ?_ _ | refine blk_drew ?_ | refine blk_alloc ?_ _)); with_reducible exact BK831.out); (case h3 => exact Try.underlying76); (case h4 => rfl); (case hi => kernel_rfl)) | ((with_reducible refine gate_callee (f := 71) rfl ?_); refine goesL_ (some 88) rfl rfl Try.func71 (by kernel_rfl) rfl #[.agg #[.int .i64 a0_0, .int .i64 a0_1, .int .i64 a0_2, .int .i64 a0_3, .int .i64 a0_4, .int .i64 a0_5, .int .i64 a0_6, .int .i64 a0_7, .int .i64 a0_8, .int .i64 a0_9, .slice A0_10 l0_10.length c0_10], .int .i64 (wrap64 (t805 - 1))] rfl (by (try simp only [List.map_toArray, List.map_cons, List.map_nil]); first | done | rfl | (simp only [List.length_drop, List.length_take]; rfl)) ?_; (with_reducible refine (bellwetherref21_Owner.calls kj39 a0_0 a0_1 a0_2 a0_3 a0_4 a0_5 a0_6 a0_7 a0_8 a0_9 _ _ l0_10 (wrap64 (t805 - 1)) t834 _ ?side1 ?side2 A128.out).mono ?_); (case side1 => exact (Kd.C_below HR0_10.out HB.out)); (case side2 => exact HC0_10.out); rintro e w190 ⟨rfl, hb⟩; refine ⟨_, rfl, ?_⟩; have n0_ := Aside0.mk (blk_below BK794.out hb); have n1_ := Aside0.mk (blk_below BK795.out hb); have n2_ := Aside0.mk (blk_below BK796.out hb); have n3_ := Aside0.mk (blk_below BK806.out hb); have n4_ := Aside0.mk (blk_below BK831.out hb); have n5_ := Aside0.mk (below_step HB.out hb); clear BK794; clear BK795; clear BK796; clear BK806; clear BK831; clear HB; have BK794 := n0_; have BK795 := n1_; have BK796 := n2_; have BK806 := n3_; have BK831 := n4_; have HB := n5_; clear n0_ n1_ n2_ n3_ n4_ n5_; (try clear hb); (try clear hb2); (try clear hk); (try clear hi)))
           go_meet
           case rel => exact ⟨_, (true), (by first | rfl | (simp; done) | (simp [*]; done)), H', ⟨by have := HJ14.out; have := HJ39.out; first | omega | exact Nat.le_refl _⟩, ⟨by (with_reducible repeat (first | refine blk_drewN ?_ _ | refine blk_drew ?_ | refine blk_alloc ?_ _)); exact BK794.out⟩, ⟨by (with_reducible repeat (first | refine blk_drewN ?_ _ | refine blk_drew ?_ | refine blk_alloc ?_ _)); exact BK795.out⟩, ⟨by (with_reducible repeat (first | refine blk_drewN ?_ _ | refine blk_drew ?_ | refine blk_alloc ?_ _)); exact BK796.out⟩, ⟨by (with_reducible repeat (first | refine blk_drewN ?_ _ | refine blk_drew ?_ | refine blk_alloc ?_ _)); exact BK806.out⟩, ⟨by (with_reducible repeat (first | refine blk_drewN ?_ _ | refine blk_drew ?_ | refine blk_alloc ?_ _)); exact BK831.out⟩, ⟨by repeat (first | (with_reducible first | exact HB.out | apply below_alloc | apply pw_below_drewN | apply below_drew1 | refine below_set ?_ GE794.out | refine below_set ?_ GE795.out | refine below_set ?_ GE796.out | refine below_set ?_ GE806.out | refine below_set ?_ GE831.out) | exact HB.out)⟩⟩
         case rest =>
          clear HC127
          try clear c1
          try clear p2
          try clear p6
          try clear c7
          try clear c11
          try clear c12
          try clear c13
          try clear c14
          try clear c15
          try clear c16
          try clear c17
          try clear c18
          try clear p64
          try clear c71
          try clear c117
          try clear c118
          try clear c118b0
          try clear c118b1
          try clear c119
          try clear c119b0
          try clear c119b1
          try clear c121
          try clear c122
          try clear c123
          try clear c124
          try clear c129
          try clear c129b0
          try clear c129b1
          try clear c130
          try clear c130b0
          try clear c130b1
          try clear c132
          try clear c133
          try clear c134
          try clear c135
          try clear c136
          try clear c139
          try clear c140
          try clear c141
          try clear c143
          try clear c144
          try clear c147
          try clear c148
          try clear c149
          try clear c150
          try clear c151
          try clear c154
          try clear c155
          try clear c156
          try clear c158
          try clear c159
          try clear c162
          try clear c163
          try clear c164
          try clear c165
          try clear c168
          try clear c169
          try clear c170
          try clear c172
          try clear c173
          try clear c175
          try clear c176
          try clear c177
          try clear c178
          try clear c181
          try clear c182
          try clear c183
          try clear c185
          try clear c186
          try clear c187
          try clear c188
          try clear hcz125_0
          try clear hcz125_1
          try clear hcz125_2
          try clear hcz125_3
          try clear hcz125_4
          try clear hcz125_5
          try clear hcz137_0
          try clear hcz137_1
          try clear hcz137_10
          try clear hcz137_2
          try clear hcz137_3
          try clear hcz137_4
          try clear hcz137_5
          try clear hcz137_6
          try clear hcz137_7
          try clear hcz137_8
          try clear hcz137_9
          try clear hcz142_0
          try clear hcz142_1
          try clear hcz142_2
          try clear hcz142_3
          try clear hcz142_4
          try clear hcz142_5
          try clear hcz145_0
          try clear hcz145_1
          try clear hcz145_10
          try clear hcz145_11
          try clear hcz145_12
          try clear hcz145_13
          try clear hcz145_14
          try clear hcz145_15
          try clear hcz145_16
          try clear hcz145_17
          try clear hcz145_18
          try clear hcz145_19
          try clear hcz145_2
          try clear hcz145_20
          try clear hcz145_21
          try clear hcz145_22
          try clear hcz145_23
          try clear hcz145_3
          try clear hcz145_4
          try clear hcz145_5
          try clear hcz145_6
          try clear hcz145_7
          try clear hcz145_8
          try clear hcz145_9
          try clear hcz152_0
          try clear hcz152_1
          try clear hcz152_10
          try clear hcz152_2
          try clear hcz152_3
          try clear hcz152_4
          try clear hcz152_5
          try clear hcz152_6
          try clear hcz152_7
          try clear hcz152_8
          try clear hcz152_9
          try clear hcz157_0
          try clear hcz157_1
          try clear hcz157_2
          try clear hcz157_3
          try clear hcz157_4
          try clear hcz157_5
          try clear hcz160_0
          try clear hcz160_1
          try clear hcz160_10
          try clear hcz160_11
          try clear hcz160_12
          try clear hcz160_13
          try clear hcz160_14
          try clear hcz160_15
          try clear hcz160_16
          try clear hcz160_17
          try clear hcz160_18
          try clear hcz160_19
          try clear hcz160_2
          try clear hcz160_20
          try clear hcz160_21
          try clear hcz160_22
          try clear hcz160_23
          try clear hcz160_3
          try clear hcz160_4
          try clear hcz160_5
          try clear hcz160_6
          try clear hcz160_7
          try clear hcz160_8
          try clear hcz160_9
          try clear hcz161_0
          try clear hcz161_1
          try clear hcz161_10
          try clear hcz161_2
          try clear hcz161_3
          try clear hcz161_4
          try clear hcz161_5
          try clear hcz161_6
          try clear hcz161_7
          try clear hcz161_8
          try clear hcz161_9
          try clear hcz166_0
          try clear hcz166_1
          try clear hcz166_10
          try clear hcz166_2
          try clear hcz166_3
          try clear hcz166_4
          try clear hcz166_5
          try clear hcz166_6
          try clear hcz166_7
          try clear hcz166_8
          try clear hcz166_9
          try clear hcz171_0
          try clear hcz171_1
          try clear hcz171_2
          try clear hcz171_3
          try clear hcz171_4
          try clear hcz171_5
          try clear hcz174_0
          try clear hcz174_1
          try clear hcz174_10
          try clear hcz174_11
          try clear hcz174_12
          try clear hcz174_13
          try clear hcz174_14
          try clear hcz174_15
          try clear hcz174_16
          try clear hcz174_17
          try clear hcz174_18
          try clear hcz174_19
          try clear hcz174_2
          try clear hcz174_20
          try clear hcz174_21
          try clear hcz174_22
          try clear hcz174_23
          try clear hcz174_3
          try clear hcz174_4
          try clear hcz174_5
          try clear hcz174_6
          try clear hcz174_7
          try clear hcz174_8
          try clear hcz174_9
          try clear hcz179_0
          try clear hcz179_1
          try clear hcz179_10
          try clear hcz179_2
          try clear hcz179_3
          try clear hcz179_4
          try clear hcz179_5
          try clear hcz179_6
          try clear hcz179_7
          try clear hcz179_8
          try clear hcz179_9
          try clear hcz184_0
          try clear hcz184_1
          try clear hcz184_2
          try clear hcz184_3
          try clear hcz184_4
          try clear hcz184_5
          try clear hcz189_0
          try clear hcz189_1
          try clear hcz189_10
          try clear hcz189_2
          try clear hcz189_3
          try clear hcz189_4
          try clear hcz189_5
          try clear hcz189_6
          try clear hcz189_7
          try clear hcz189_8
          try clear hcz189_9
          try clear hcz87_14
          try clear hcz87_15
          try clear hcz87_16
          try clear hcz87_17
          try clear hcz87_18
          try clear hcz87_19
          try clear hcz87_2
          try clear hcz87_20
          try clear hcz87_21
          try clear hcz87_22
          try clear hcz87_23
          try clear hcz87_3
          try clear hcz87_4
          try clear hcz87_5
          try clear hcz87_6
          try clear hcz87_7
          try clear hcz87_8
          try clear hcz87_9
          try clear hcz92_0
          try clear hcz92_1
          try clear hcz92_2
          try clear hcz92_3
          try clear hcz92_4
          try clear hcz92_5
          try clear hcz96_0
          try clear hcz96_1
          try clear hcz96_2
          try clear hcz96_3
          try clear hcz96_4
          try clear hcz96_5
          try clear hcz99_0
          try clear hcz99_1
          try clear hcz99_10
          try clear hcz99_2
          try clear hcz99_3
          try clear hcz99_4
          try clear hcz99_5
          try clear hcz99_6
          try clear hcz99_7
          try clear hcz99_8
          try clear hcz99_9
          try clear hfz101_0
          try clear hfz101_1
          try clear hfz101_2
          try clear hfz101_3
          try clear hfz101_4
          try clear hfz101_5
          try clear hfz103_0
          try clear hfz103_1
          try clear hfz103_10
          try clear hfz103_11
          try clear hfz103_12
          try clear hfz103_13
          try clear hfz103_14
          try clear hfz103_15
          try clear hfz103_16
          try clear hfz103_17
          try clear hfz103_18
          try clear hfz103_19
          try clear hfz103_2
          try clear hfz103_20
          try clear hfz103_21
          try clear hfz103_22
          try clear hfz103_23
          try clear hfz103_3
          try clear hfz103_4
          try clear hfz103_5
          try clear hfz103_6
          try clear hfz103_7
          try clear hfz103_8
          try clear hfz103_9
          try clear hfz108_0
          try clear hfz108_1
          try clear hfz108_2
          try clear hfz108_3
          try clear hfz108_4
          try clear hfz108_5
          try clear hfz112_0
          try clear hfz112_1
          try clear hfz112_2
          try clear hfz112_3
          try clear hfz112_4
          try clear hfz112_5
          try clear hfz115_0
          try clear hfz115_1
          try clear hfz115_10
          try clear hfz115_2
          try clear hfz115_3
          try clear hfz115_4
          try clear hfz115_5
          try clear hfz115_6
          try clear hfz115_7
          try clear hfz115_8
          try clear hfz115_9
          try clear hfz125_0
          try clear hfz125_1
          try clear hfz125_2
          try clear hfz125_3
          try clear hfz125_4
          try clear hfz125_5
          try clear hfz12_0
          try clear hfz12_1
          try clear hfz12_10
          try clear hfz12_11
          try clear hfz12_12
          try clear hfz12_13
          try clear hfz12_14
          try clear hfz12_15
          try clear hfz12_16
          try clear hfz12_17
          try clear hfz12_18
          try clear hfz12_19
          try clear hfz12_2
          try clear hfz12_20
          try clear hfz12_21
          try clear hfz12_22
          try clear hfz12_23
          try clear hfz12_3
          try clear hfz12_4
          try clear hfz12_5
          try clear hfz12_6
          try clear hfz12_7
          try clear hfz12_8
          try clear hfz12_9
          try clear hfz137_0
          try clear hfz137_1
          try clear hfz137_10
          try clear hfz137_2
          try clear hfz137_3
          try clear hfz137_4
          try clear hfz137_5
          try clear hfz137_6
          try clear hfz137_7
          try clear hfz137_8
          try clear hfz137_9
          try clear hfz142_0
          try clear hfz142_1
          try clear hfz142_2
          try clear hfz142_3
          try clear hfz142_4
          try clear hfz142_5
          try clear hfz145_0
          try clear hfz145_1
          try clear hfz145_10
          try clear hfz145_11
          try clear hfz145_12
          try clear hfz145_13
          try clear hfz145_14
          try clear hfz145_15
          try clear hfz145_16
          try clear hfz145_17
          try clear hfz145_18
          try clear hfz145_19
          try clear hfz145_2
          try clear hfz145_20
          try clear hfz145_21
          try clear hfz145_22
          try clear hfz145_23
          try clear hfz145_3
          try clear hfz145_4
          try clear hfz145_5
          try clear hfz145_6
          try clear hfz145_7
          try clear hfz145_8
          try clear hfz145_9
          try clear hfz152_0
          try clear hfz152_1
          try clear hfz152_10
          try clear hfz152_2
          try clear hfz152_3
          try clear hfz152_4
          try clear hfz152_5
          try clear hfz152_6
          try clear hfz152_7
          try clear hfz152_8
          try clear hfz152_9
          try clear hfz157_0
          try clear hfz157_1
          try clear hfz157_2
          try clear hfz157_3
          try clear hfz157_4
          try clear hfz157_5
          try clear hfz160_0
          try clear hfz160_1
          try clear hfz160_10
          try clear hfz160_11
          try clear hfz160_12
          try clear hfz160_13
          try clear hfz160_14
          try clear hfz160_15
          try clear hfz160_16
          try clear hfz160_17
          try clear hfz160_18
          try clear hfz160_19
          try clear hfz160_2
          try clear hfz160_20
          try clear hfz160_21
          try clear hfz160_22
          try clear hfz160_23
          try clear hfz160_3
          try clear hfz160_4
          try clear hfz160_5
          try clear hfz160_6
          try clear hfz160_7
          try clear hfz160_8
          try clear hfz160_9
          try clear hfz161_0
          try clear hfz161_1
          try clear hfz161_10
          try clear hfz161_2
          try clear hfz161_3
          try clear hfz161_4
          try clear hfz161_5
          try clear hfz161_6
          try clear hfz161_7
          try clear hfz161_8
          try clear hfz161_9
          try clear hfz166_0
          try clear hfz166_1
          try clear hfz166_10
          try clear hfz166_2
          try clear hfz166_3
          try clear hfz166_4
          try clear hfz166_5
          try clear hfz166_6
          try clear hfz166_7
          try clear hfz166_8
          try clear hfz166_9
          try clear hfz171_0
          try clear hfz171_1
          try clear hfz171_2
          try clear hfz171_3
          try clear hfz171_4
          try clear hfz171_5
          try clear hfz174_0
          try clear hfz174_1
          try clear hfz174_10
          try clear hfz174_11
          try clear hfz174_12
          try clear hfz174_13
          try clear hfz174_14
          try clear hfz174_15
          try clear hfz174_16
          try clear hfz174_17
          try clear hfz174_18
          try clear hfz174_19
          try clear hfz174_2
          try clear hfz174_20
          try clear hfz174_21
          try clear hfz174_22
          try clear hfz174_23
          try clear hfz174_3
          try clear hfz174_4
          try clear hfz174_5
          try clear hfz174_6
          try clear hfz174_7
          try clear hfz174_8
          try clear hfz174_9
          try clear hfz179_0
          try clear hfz179_1
          try clear hfz179_10
          try clear hfz179_2
          try clear hfz179_3
          try clear hfz179_4
          try clear hfz179_5
          try clear hfz179_6
          try clear hfz179_7
          try clear hfz179_8
          try clear hfz179_9
          try clear hfz184_0
          try clear hfz184_1
          try clear hfz184_2
          try clear hfz184_3
          try clear hfz184_4
          try clear hfz184_5
          try clear hfz189_0
          try clear hfz189_1
          try clear hfz189_10
          try clear hfz189_2
          try clear hfz189_3
          try clear hfz189_4
          try clear hfz189_5
          try clear hfz189_6
          try clear hfz189_7
          try clear hfz189_8
          try clear hfz189_9
          try clear hfz21_0
          try clear hfz21_1
          try clear hfz21_10
          try clear hfz21_11
          try clear hfz21_12
          try clear hfz21_13
          try clear hfz21_14
          try clear hfz21_15
          try clear hfz21_16
          try clear hfz21_17
          try clear hfz21_18
          try clear hfz21_19
          try clear hfz21_2
          try clear hfz21_20
          try clear hfz21_21
          try clear hfz21_22
          try clear hfz21_23
          try clear hfz21_3
          try clear hfz21_4
          try clear hfz21_5
          try clear hfz21_6
          try clear hfz21_7
          try clear hfz21_8
          try clear hfz21_9
          try clear hfz23_0
          try clear hfz23_1
          try clear hfz23_10
          try clear hfz23_2
          try clear hfz23_3
          try clear hfz23_4
          try clear hfz23_5
          try clear hfz23_6
          try clear hfz23_7
          try clear hfz23_8
          try clear hfz23_9
          try clear hfz24_0
          try clear hfz24_1
          try clear hfz24_2
          try clear hfz24_3
          try clear hfz24_4
          try clear hfz24_5
          try clear hfz44_0
          try clear hfz44_1
          try clear hfz44_10
          try clear hfz44_2
          try clear hfz44_3
          try clear hfz44_4
          try clear hfz44_5
          try clear hfz44_6
          try clear hfz44_7
          try clear hfz44_8
          try clear hfz44_9
          try clear hfz47_0
          try clear hfz47_1
          try clear hfz47_10
          try clear hfz47_11
          try clear hfz47_12
          try clear hfz47_13
          try clear hfz47_14
          try clear hfz47_15
          try clear hfz47_16
          try clear hfz47_17
          try clear hfz47_18
          try clear hfz47_19
          try clear hfz47_2
          try clear hfz47_20
          try clear hfz47_21
          try clear hfz47_22
          try clear hfz47_23
          try clear hfz47_3
          try clear hfz47_4
          try clear hfz47_5
          try clear hfz47_6
          try clear hfz47_7
          try clear hfz47_8
          try clear hfz47_9
          try clear hfz49_0
          try clear hfz49_1
          try clear hfz49_2
          try clear hfz49_3
          try clear hfz49_4
          try clear hfz49_5
          try clear hfz58_0
          try clear hfz58_1
          try clear hfz58_2
          try clear hfz58_3
          try clear hfz58_4
          try clear hfz58_5
          try clear hfz64_0
          try clear hfz64_1
          try clear hfz64_2
          try clear hfz64_3
          try clear hfz64_4
          try clear hfz64_5
          try clear hfz68_0
          try clear hfz68_1
          try clear hfz68_2
          try clear hfz68_3
          try clear hfz68_4
          try clear hfz68_5
          try clear hfz76_0
          try clear hfz76_1
          try clear hfz76_2
          try clear hfz76_3
          try clear hfz76_4
          try clear hfz76_5
          try clear hfz80_0
          try clear hfz80_1
          try clear hfz80_2
          try clear hfz80_3
          try clear hfz80_4
          try clear hfz80_5
          try clear hfz83_0
          try clear hfz83_1
          try clear hfz83_10
          try clear hfz83_2
          try clear hfz83_3
          try clear hfz83_4
          try clear hfz83_5
          try clear hfz83_6
          try clear hfz83_7
          try clear hfz83_8
          try clear hfz83_9
          try clear hfz85_0
          try clear hfz85_1
          try clear hfz85_2
          try clear hfz85_3
          try clear hfz85_4
          try clear hfz85_5
          try clear hfz87_0
          try clear hfz87_1
          try clear hfz87_10
          try clear hfz87_11
          try clear hfz87_12
          try clear hfz87_13
          try clear hfz87_14
          try clear hfz87_15
          try clear hfz87_16
          try clear hfz87_17
          try clear hfz87_18
          try clear hfz87_19
          try clear hfz87_2
          try clear hfz87_20
          try clear hfz87_21
          try clear hfz87_22
          try clear hfz87_23
          try clear hfz87_3
          try clear hfz87_4
          try clear hfz87_5
          try clear hfz87_6
          try clear hfz87_7
          try clear hfz87_8
          try clear hfz87_9
          try clear hfz92_0
          try clear hfz92_1
          try clear hfz92_2
          try clear hfz92_3
          try clear hfz92_4
          try clear hfz92_5
          try clear hfz96_0
          try clear hfz96_1
          try clear hfz96_2
          try clear hfz96_3
          try clear hfz96_4
          try clear hfz96_5
          try clear hfz99_0
          try clear hfz99_1
          try clear hfz99_10
          try clear hfz99_2
          try clear hfz99_3
          try clear hfz99_4
          try clear hfz99_5
          try clear hfz99_6
          try clear hfz99_7
          try clear hfz99_8
          try clear hfz99_9
          try clear p2
          obtain ⟨kq, x118_126, rfl, HA, HJ126, BK794, BK795, BK796, BK806, BK831, HB⟩ := hcut
          cases kq with
          | zero => exact absurd HA.out (by simp [bellwetherlaw23_GateGuards.j2])
          | succ kj126 =>
           have H := HA.out
           clear HA
           simp only [bellwetherlaw23_GateGuards.j2] at H
           by_cases c191 : x118_126 = true
           ·subst c191
            have H1 : (none) = some r := by rw [if_pos rfl] at H; exact H
            clear H
            have H := H1
            clear H1
            exact absurd H (by simp)
           ·replace c191 := Bool.eq_false_iff.mpr c191
            subst c191
            have H1 : ((gate_Open.f kj126 a0_0 a0_1 a0_2 a0_3 a0_4 a0_5 a0_6 a0_7 a0_8 a0_9 l0_10 a1_0 a1_1 a1_2 a1_3 a1_4 a1_5 a1_6 a1_7 a1_8 a1_9 a1_10 a1_11 t804 a1_13 a1_14 l1_15 l1_16 l1_17 a1_18 a1_19 a1_20 a1_21 a1_22 a1_23 a2).bind fun t837 => (if t837 = (wrap64 (t805 - 1)) then (none) else ((bellwetherlaw23_known.f kj126).bind fun t838 => (some t838)))) = some r := by rw [if_neg (show ¬ (false = true) by decide)] at H; exact H
            clear H
            have H := H1
            clear H1
            replace H := Option.bind_eq_some_iff.mp H
            obtain ⟨t837, A1920, H⟩ := H
            replace H : (if t837 = (wrap64 (t805 - 1)) then (none) else ((bellwetherlaw23_known.f kj126).bind fun t838 => (some t838))) = some r := H
            have A192 := Aside0.mk A1920
            clear A1920
            by_cases c193 : t837 = (wrap64 (t805 - 1))
            ·rw [if_pos c193] at H
             exact absurd H (by simp)
            ·rw [if_neg c193] at H
             have c193b0 : (t837 == (wrap64 (t805 - 1))) = false := beq_eq_false_iff_ne.mpr c193
             have c193b1 : (t837 != (wrap64 (t805 - 1))) = true := bne_iff_ne.mpr c193
             replace H := Option.bind_eq_some_iff.mp H
             obtain ⟨t838, A1940, H⟩ := H
             replace H : (some t838) = some r := H
             have A194 := Aside0.mk A1940
             clear A1940
             obtain rfl := Option.some.inj H
             have hnb195 := NB795_794.out
             have hnc195 := NB794_795.out
             have hnb196 := NB795_796.out
             have hnc196 := NB796_795.out
             have hnb197 := NB795_806.out
             have hnc197 := NB806_795.out
             have hnb198 := NB795_831.out
             have hnc198 := NB831_795.out
             obtain ⟨hcz199_0, hcz199_1, hcz199_2, hcz199_3, hcz199_4, hcz199_5, hcz199_6, hcz199_7, hcz199_8, hcz199_9, hcz199_10, hcz199_11, hcz199_12, hcz199_13, hcz199_14, hcz199_15, hcz199_16, hcz199_17, hcz199_18, hcz199_19, hcz199_20, hcz199_21, hcz199_22, hcz199_23⟩ := cells_24 BK795.out
             obtain ⟨hfz199_0, hfz199_1, hfz199_2, hfz199_3, hfz199_4, hfz199_5, hfz199_6, hfz199_7, hfz199_8, hfz199_9, hfz199_10, hfz199_11, hfz199_12, hfz199_13, hfz199_14, hfz199_15, hfz199_16, hfz199_17, hfz199_18, hfz199_19, hfz199_20, hfz199_21, hfz199_22, hfz199_23⟩ := frozen_24 BK795.out
             have hnb200 := NB794_796.out
             have hnc200 := NB796_794.out
             have hnb201 := NB794_806.out
             have hnc201 := NB806_794.out
             have hnb202 := NB794_831.out
             have hnc202 := NB831_794.out
             obtain ⟨hcz203_0, hcz203_1, hcz203_2, hcz203_3, hcz203_4, hcz203_5, hcz203_6, hcz203_7, hcz203_8, hcz203_9, hcz203_10⟩ := cells_11 BK794.out
             obtain ⟨hfz203_0, hfz203_1, hfz203_2, hfz203_3, hfz203_4, hfz203_5, hfz203_6, hfz203_7, hfz203_8, hfz203_9, hfz203_10⟩ := frozen_11 BK794.out
             go_wp2_with (first | ((with_reducible refine gate_load (t := 24) (x := .tmp 4) rfl ?_); refine load_row_g (cs := ?_) ?hw 24 (.tmp 4) ?h2 gb794 ?hx 24 (fr := (0, 0)) (d := ?_) ?hg ?h3 ?h4 ?hi ?_; (case hw => first | (with_reducible rfl) | (go_simp; done) | rfl); (case h2 => rfl); (case hx => first | (with_reducible rfl) | (go_simp; done) | rfl); (case hg => (with_reducible repeat (first | refine blk_drewN ?_ _ | refine blk_drew ?_ | refine blk_alloc ?_ _)); with_reducible exact BK794.out); (case h3 => exact Try.underlying24); (case h4 => rfl); (case hi => kernel_rfl)) | ((with_reducible refine gate_load (t := 44) (x := .tmp 5) rfl ?_); refine load_row_g (cs := ?_) ?hw 44 (.tmp 5) ?h2 gb795 ?hx 44 (fr := (0, 0)) (d := ?_) ?hg ?h3 ?h4 ?hi ?_; (case hw => first | (with_reducible rfl) | (go_simp; done) | rfl); (case h2 => rfl); (case hx => first | (with_reducible rfl) | (go_simp; done) | rfl); (case hg => (with_reducible repeat (first | refine blk_drewN ?_ _ | refine blk_drew ?_ | refine blk_alloc ?_ _)); with_reducible exact BK795.out); (case h3 => exact Try.underlying44); (case h4 => rfl); (case hi => kernel_rfl)) | ((with_reducible refine gate_load (t := 76) (x := .tmp 7) rfl ?_); refine load_row_g (cs := ?_) ?hw 76 (.tmp 7) ?h2 gb796 ?hx 76 (fr := (0, 0)) (d := ?_) ?hg ?h3 ?h4 ?hi ?_; (case hw => first | (with_reducible rfl) | (go_simp; done) | rfl); (case h2 => rfl); (case hx => first | (with_reducible rfl) | (go_simp; done) | rfl); (case hg => (with_reducible repeat (first | refine blk_drewN ?_ _ | refine blk_drew ?_ | refine blk_alloc ?_ _)); with_reducible exact BK796.out); (case h3 => exact Try.underlying76); (case h4 => rfl); (case hi => kernel_rfl)) | ((with_reducible refine gate_load (t := 76) (x := .tmp 9) rfl ?_); refine load_row_g (cs := ?_) ?hw 76 (.tmp 9) ?h2 gb806 ?hx 76 (fr := (0, 0)) (d := ?_) ?hg ?h3 ?h4 ?hi ?_; (case hw => first | (with_reducible rfl) | (go_simp; done) | rfl); (case h2 => rfl); (case hx => first | (with_reducible rfl) | (go_simp; done) | rfl); (case hg => (with_reducible repeat (first | refine blk_drewN ?_ _ | refine blk_drew ?_ | refine blk_alloc ?_ _)); with_reducible exact BK806.out); (case h3 => exact Try.underlying76); (case h4 => rfl); (case hi => kernel_rfl)) | ((with_reducible refine gate_load (t := 76) (x := .tmp 12) rfl ?_); refine load_row_g (cs := ?_) ?hw 76 (.tmp 12) ?h2 gb831 ?hx 76 (fr := (0, 0)) (d := ?_) ?hg ?h3 ?h4 ?hi ?_; (case hw => first | (with_reducible rfl) | (go_simp; done) | rfl); (case h2 => rfl); (case hx => first | (with_reducible rfl) | (go_simp; done) | rfl); (case hg => (with_reducible repeat (first | refine blk_drewN ?_ _ | refine blk_drew ?_ | refine blk_alloc ?_ _)); with_reducible exact BK831.out); (case h3 => exact Try.underlying76); (case h4 => rfl); (case hi => kernel_rfl)) | ((with_reducible refine gate_load (t := 24) (x := .tmp 4) rfl ?_); refine load_row_g (cs := #[.int .i64 a0_0, .int .i64 a0_1, .int .i64 a0_2, .int .i64 a0_3, .int .i64 a0_4, .int .i64 a0_5, .int .i64 a0_6, .int .i64 a0_7, .int .i64 a0_8, .int .i64 a0_9, .slice A0_10 l0_10.length c0_10]) ?hw 24 (.tmp 4) ?h2 gb794 ?hx 24 (fr := (0, 0)) (d := ?_) ?hg ?h3 ?h4 ?hi ?_; (case hw => first | (with_reducible rfl) | (go_simp; done) | rfl); (case h2 => rfl); (case hx => first | (with_reducible rfl) | (go_simp; done) | rfl); (case hg => exact (by (with_reducible repeat (first | refine blk_drewN ?_ _ | refine blk_drew ?_ | refine blk_alloc ?_ _)); refine blk_far ?_ NB794_795.out _; (with_reducible repeat (first | refine blk_drewN ?_ _ | refine blk_drew ?_ | refine blk_alloc ?_ _)); exact BK794.out)); (case h3 => exact Try.underlying24); (case h4 => rfl); (case hi => kernel_rfl)) | ((with_reducible refine gate_load (t := 44) (x := .tmp 5) rfl ?_); refine load_row_g (cs := #[.int .i64 a1_0, .int .i64 a1_1, .int .i64 a1_2, .string a1_3, .int .i64 a1_4, .string a1_5, .string a1_6, .int .i64 a1_7, .int .i64 a1_8, .string a1_9, .string a1_10, .string a1_11, .string t804, .string a1_13, .string a1_14, .slice A1_15 l1_15.length c1_15, .slice A1_16 l1_16.length c1_16, .slice A1_17 l1_17.length c1_17, .int .i64 a1_18, .int .i64 a1_19, .int .i64 a1_20, .int .i64 a1_21, .int .i64 a1_22, .int .i64 a1_23]) ?hw 44 (.tmp 5) ?h2 gb795 ?hx 44 (fr := (0, 0)) (d := ?_) ?hg ?h3 ?h4 ?hi ?_; (case hw => first | (with_reducible rfl) | (go_simp; done) | rfl); (case h2 => rfl); (case hx => first | (with_reducible rfl) | (go_simp; done) | rfl); (case hg => exact (by (with_reducible repeat (first | refine blk_drewN ?_ _ | refine blk_drew ?_ | refine blk_alloc ?_ _)); refine blk_put (cs := #[.int .i64 a1_0, .int .i64 a1_1, .int .i64 a1_2, .string a1_3, .int .i64 a1_4, .string a1_5, .string a1_6, .int .i64 a1_7, .int .i64 a1_8, .string a1_9, .string a1_10, .string a1_11, .string a1_12, .string a1_13, .string a1_14, .slice A1_15 l1_15.length c1_15, .slice A1_16 l1_16.length c1_16, .slice A1_17 l1_17.length c1_17, .int .i64 a1_18, .int .i64 a1_19, .int .i64 a1_20, .int .i64 a1_21, .int .i64 a1_22, .int .i64 a1_23]) ?_ 12 _ rfl; (with_reducible repeat (first | refine blk_drewN ?_ _ | refine blk_drew ?_ | refine blk_alloc ?_ _)); exact BK795.out)); (case h3 => exact Try.underlying44); (case h4 => rfl); (case hi => kernel_rfl)) | ((with_reducible refine gate_load (t := 76) (x := .tmp 7) rfl ?_); refine load_row_g (cs := #[.string a3_0, .int .i64 a3_1, .string a3_2, .int .i64 a3_3, .int .i64 a3_4, .string a3_5]) ?hw 76 (.tmp 7) ?h2 gb796 ?hx 76 (fr := (0, 0)) (d := ?_) ?hg ?h3 ?h4 ?hi ?_; (case hw => first | (with_reducible rfl) | (go_simp; done) | rfl); (case h2 => rfl); (case hx => first | (with_reducible rfl) | (go_simp; done) | rfl); (case hg => exact (by (with_reducible repeat (first | refine blk_drewN ?_ _ | refine blk_drew ?_ | refine blk_alloc ?_ _)); refine blk_far ?_ NB796_795.out _; (with_reducible repeat (first | refine blk_drewN ?_ _ | refine blk_drew ?_ | refine blk_alloc ?_ _)); exact BK796.out)); (case h3 => exact Try.underlying76); (case h4 => rfl); (case hi => kernel_rfl)) | ((with_reducible refine gate_load (t := 76) (x := .tmp 9) rfl ?_); refine load_row_g (cs := #[.string t798, .int .i64 t799, .string t800, .int .i64 t801, .int .i64 t802, .string t803]) ?hw 76 (.tmp 9) ?h2 gb806 ?hx 76 (fr := (0, 0)) (d := ?_) ?hg ?h3 ?h4 ?hi ?_; (case hw => first | (with_reducible rfl) | (go_simp; done) | rfl); (case h2 => rfl); (case hx => first | (with_reducible rfl) | (go_simp; done) | rfl); (case hg => exact (by (with_reducible repeat (first | refine blk_drewN ?_ _ | refine blk_drew ?_ | refine blk_alloc ?_ _)); refine blk_far ?_ NB806_795.out _; (with_reducible repeat (first | refine blk_drewN ?_ _ | refine blk_drew ?_ | refine blk_alloc ?_ _)); exact BK806.out)); (case h3 => exact Try.underlying76); (case h4 => rfl); (case hi => kernel_rfl)) | ((with_reducible refine gate_load (t := 76) (x := .tmp 12) rfl ?_); refine load_row_g (cs := #[.string t825, .int .i64 t826, .string t827, .int .i64 t828, .int .i64 t829, .string t830]) ?hw 76 (.tmp 12) ?h2 gb831 ?hx 76 (fr := (0, 0)) (d := ?_) ?hg ?h3 ?h4 ?hi ?_; (case hw => first | (with_reducible rfl) | (go_simp; done) | rfl); (case h2 => rfl); (case hx => first | (with_reducible rfl) | (go_simp; done) | rfl); (case hg => exact (by (with_reducible repeat (first | refine blk_drewN ?_ _ | refine blk_drew ?_ | refine blk_alloc ?_ _)); refine blk_far ?_ NB831_795.out _; (with_reducible repeat (first | refine blk_drewN ?_ _ | refine blk_drew ?_ | refine blk_alloc ?_ _)); exact BK831.out)); (case h3 => exact Try.underlying76); (case h4 => rfl); (case hi => kernel_rfl)) | ((with_reducible refine gate_callee (f := 51) rfl ?_); refine goesL_ (some 124) rfl rfl Try.func51 (by kernel_rfl) rfl #[.agg #[.int .i64 a0_0, .int .i64 a0_1, .int .i64 a0_2, .int .i64 a0_3, .int .i64 a0_4, .int .i64 a0_5, .int .i64 a0_6, .int .i64 a0_7, .int .i64 a0_8, .int .i64 a0_9, .slice A0_10 l0_10.length c0_10], .agg #[.int .i64 a1_0, .int .i64 a1_1, .int .i64 a1_2, .string a1_3, .int .i64 a1_4, .string a1_5, .string a1_6, .int .i64 a1_7, .int .i64 a1_8, .string a1_9, .string a1_10, .string a1_11, .string t804, .string a1_13, .string a1_14, .slice A1_15 l1_15.length c1_15, .slice A1_16 l1_16.length c1_16, .slice A1_17 l1_17.length c1_17, .int .i64 a1_18, .int .i64 a1_19, .int .i64 a1_20, .int .i64 a1_21, .int .i64 a1_22, .int .i64 a1_23], .int .i64 a2] rfl (by (try simp only [List.map_toArray, List.map_cons, List.map_nil]); first | done | rfl | (simp only [List.length_drop, List.length_take]; rfl)) ?_; (with_reducible refine (gate_Open.calls kj126 a0_0 a0_1 a0_2 a0_3 a0_4 a0_5 a0_6 a0_7 a0_8 a0_9 _ _ l0_10 a1_0 a1_1 a1_2 a1_3 a1_4 a1_5 a1_6 a1_7 a1_8 a1_9 a1_10 a1_11 t804 a1_13 a1_14 _ _ l1_15 _ _ l1_16 _ _ l1_17 a1_18 a1_19 a1_20 a1_21 a1_22 a1_23 a2 t837 _ ?side1 ?side2 ?side3 ?side4 ?side5 ?side6 ?side7 ?side8 A192.out).mono ?_); (case side1 => exact Kd.C_below HR0_10.out (by repeat (first | (with_reducible first | exact HB.out | apply below_alloc | apply pw_below_drewN | apply below_drew1 | refine below_set ?_ GE794.out | refine below_set ?_ GE795.out | refine below_set ?_ GE796.out | refine below_set ?_ GE806.out | refine below_set ?_ GE831.out) | exact HB.out))); (case side2 => exact HC0_10.out); (case side3 => exact Kd.C_below HR1_15.out (by repeat (first | (with_reducible first | exact HB.out | apply below_alloc | apply pw_below_drewN | apply below_drew1 | refine below_set ?_ GE794.out | refine below_set ?_ GE795.out | refine below_set ?_ GE796.out | refine below_set ?_ GE806.out | refine below_set ?_ GE831.out) | exact HB.out))); (case side4 => exact HC1_15.out); (case side5 => exact Kd.C_below HR1_16.out (by repeat (first | (with_reducible first | exact HB.out | apply below_alloc | apply pw_below_drewN | apply below_drew1 | refine below_set ?_ GE794.out | refine below_set ?_ GE795.out | refine below_set ?_ GE796.out | refine below_set ?_ GE806.out | refine below_set ?_ GE831.out) | exact HB.out))); (case side6 => exact HC1_16.out); (case side7 => exact Kd.C_below HR1_17.out (by repeat (first | (with_reducible first | exact HB.out | apply below_alloc | apply pw_below_drewN | apply below_drew1 | refine below_set ?_ GE794.out | refine below_set ?_ GE795.out | refine below_set ?_ GE796.out | refine below_set ?_ GE806.out | refine below_set ?_ GE831.out) | exact HB.out))); (case side8 => exact HC1_17.out); rintro e w204 ⟨rfl, hb⟩; refine ⟨_, rfl, ?_⟩; have n0_ := Aside0.mk (blk_below (g := gb794) (o := .cells #[.int .i64 a0_0, .int .i64 a0_1, .int .i64 a0_2, .int .i64 a0_3, .int .i64 a0_4, .int .i64 a0_5, .int .i64 a0_6, .int .i64 a0_7, .int .i64 a0_8, .int .i64 a0_9, .slice A0_10 l0_10.length c0_10] 24 (0, 0)) (by (with_reducible repeat (first | refine blk_drewN ?_ _ | refine blk_drew ?_ | refine blk_alloc ?_ _)); refine blk_far ?_ NB794_795.out _; (with_reducible repeat (first | refine blk_drewN ?_ _ | refine blk_drew ?_ | refine blk_alloc ?_ _)); exact BK794.out) hb); have n1_ := Aside0.mk (blk_below (g := gb795) (o := .cells #[.int .i64 a1_0, .int .i64 a1_1, .int .i64 a1_2, .string a1_3, .int .i64 a1_4, .string a1_5, .string a1_6, .int .i64 a1_7, .int .i64 a1_8, .string a1_9, .string a1_10, .string a1_11, .string t804, .string a1_13, .string a1_14, .slice A1_15 l1_15.length c1_15, .slice A1_16 l1_16.length c1_16, .slice A1_17 l1_17.length c1_17, .int .i64 a1_18, .int .i64 a1_19, .int .i64 a1_20, .int .i64 a1_21, .int .i64 a1_22, .int .i64 a1_23] 44 (0, 0)) (by (with_reducible repeat (first | refine blk_drewN ?_ _ | refine blk_drew ?_ | refine blk_alloc ?_ _)); refine blk_put (cs := #[.int .i64 a1_0, .int .i64 a1_1, .int .i64 a1_2, .string a1_3, .int .i64 a1_4, .string a1_5, .string a1_6, .int .i64 a1_7, .int .i64 a1_8, .string a1_9, .string a1_10, .string a1_11, .string a1_12, .string a1_13, .string a1_14, .slice A1_15 l1_15.length c1_15, .slice A1_16 l1_16.length c1_16, .slice A1_17 l1_17.length c1_17, .int .i64 a1_18, .int .i64 a1_19, .int .i64 a1_20, .int .i64 a1_21, .int .i64 a1_22, .int .i64 a1_23]) ?_ 12 _ rfl; (with_reducible repeat (first | refine blk_drewN ?_ _ | refine blk_drew ?_ | refine blk_alloc ?_ _)); exact BK795.out) hb); have n2_ := Aside0.mk (blk_below (g := gb796) (o := .cells #[.string a3_0, .int .i64 a3_1, .string a3_2, .int .i64 a3_3, .int .i64 a3_4, .string a3_5] 76 (0, 0)) (by (with_reducible repeat (first | refine blk_drewN ?_ _ | refine blk_drew ?_ | refine blk_alloc ?_ _)); refine blk_far ?_ NB796_795.out _; (with_reducible repeat (first | refine blk_drewN ?_ _ | refine blk_drew ?_ | refine blk_alloc ?_ _)); exact BK796.out) hb); have n3_ := Aside0.mk (blk_below (g := gb806) (o := .cells #[.string t798, .int .i64 t799, .string t800, .int .i64 t801, .int .i64 t802, .string t803] 76 (0, 0)) (by (with_reducible repeat (first | refine blk_drewN ?_ _ | refine blk_drew ?_ | refine blk_alloc ?_ _)); refine blk_far ?_ NB806_795.out _; (with_reducible repeat (first | refine blk_drewN ?_ _ | refine blk_drew ?_ | refine blk_alloc ?_ _)); exact BK806.out) hb); have n4_ := Aside0.mk (blk_below (g := gb831) (o := .cells #[.string t825, .int .i64 t826, .string t827, .int .i64 t828, .int .i64 t829, .string t830] 76 (0, 0)) (by (with_reducible repeat (first | refine blk_drewN ?_ _ | refine blk_drew ?_ | refine blk_alloc ?_ _)); refine blk_far ?_ NB831_795.out _; (with_reducible repeat (first | refine blk_drewN ?_ _ | refine blk_drew ?_ | refine blk_alloc ?_ _)); exact BK831.out) hb); have n5_ := Aside0.mk (below_step (by repeat (first | (with_reducible first | exact HB.out | apply below_alloc | apply pw_below_drewN | apply below_drew1 | refine below_set ?_ GE794.out | refine below_set ?_ GE795.out | refine below_set ?_ GE796.out | refine below_set ?_ GE806.out | refine below_set ?_ GE831.out) | exact HB.out)) hb); clear BK794; clear BK795; clear BK796; clear BK806; clear BK831; clear HB; have BK794 := n0_; have BK795 := n1_; have BK796 := n2_; have BK806 := n3_; have BK831 := n4_; have HB := n5_; clear n0_ n1_ n2_ n3_ n4_ n5_; (try clear hb); (try clear hb2); (try clear hk); (try clear hi)) | (go_at_call 46; (with_reducible refine (bellwetherlaw23_known.calls kj126  t838 _ A194.out).mono ?_); rintro e w205 ⟨rfl, hb⟩; have n0_ := Aside0.mk (blk_below BK794.out hb); have n1_ := Aside0.mk (blk_below BK795.out hb); have n2_ := Aside0.mk (blk_below BK796.out hb); have n3_ := Aside0.mk (blk_below BK806.out hb); have n4_ := Aside0.mk (blk_below BK831.out hb); have n5_ := Aside0.mk (below_step HB.out hb); clear BK794; clear BK795; clear BK796; clear BK806; clear BK831; clear HB; have BK794 := n0_; have BK795 := n1_; have BK796 := n2_; have BK806 := n3_; have BK831 := n4_; have HB := n5_; clear n0_ n1_ n2_ n3_ n4_ n5_; (try clear hb); (try clear hb2); (try clear hk); (try clear hi)))
             go_ret
             exact ⟨by first | rfl | (simp [errW_none, errW_some] <;> rfl) | (simp [*, errW_none, errW_some] <;> rfl), by repeat (first | (with_reducible first | exact HB.out | apply below_alloc | apply pw_below_drewN | apply below_drew1 | refine below_set ?_ GE794.out | refine below_set ?_ GE795.out | refine below_set ?_ GE796.out | refine below_set ?_ GE806.out | refine below_set ?_ GE831.out) | exact HB.out)⟩
end Go.Proofs.Ytdcknaoamjlaiaa.Gn
