import Derived.Test.YtebflimijebbnaaZAcceptOwnersGn0
import Derived.Test.YtebflimijebbnaaZAcceptOwnersGn1
import Derived.Test.YtebflimijebbnaaZAcceptOwnersGn2
import Derived.Test.YtebflimijebbnaaZAcceptOwnersGn12
import Derived.Test.YtebflimijebbnaaZAcceptOwnersGn16
import Derived.Test.YtebflimijebbnaaZAcceptOwnersGn19
import Derived.Test.YtebflimijebbnaaZAcceptOwnersGn22
import Derived.Test.YtebflimijebbnaaZAcceptOwnersGn23
import Derived.Test.YtebflimijebbnaaZAcceptOwnersGn24
import Derived.Test.YtebflimijebbnaaZAcceptOwnersGn27
namespace Go.Proofs.Ytebflimijebbnaa.Gn
open Go.RowKit Go.Proofs.YtebflimijebbnaaW.PrintWords Go.Proofs.YtebflimijebbnaaW.PrintLast Go.Proofs.YtebflimijebbnaaW.PrintMore
attribute [local go_sem] max2_int min2_int max_two min_two max_three min_three max_four min_four   -- for this text's walks alone
set_option linter.unusedVariables false
set_option linter.unusedSimpArgs false
attribute [local go_sem high] eqA35
mutual
def l24_AcceptOwners.j0 : Nat → Int → Bool → Int → Int → Int → Int → Int → Int → Int → Int → Int → Int → List Int → Int → Int → Int → ByteArray → Int → ByteArray → ByteArray → Int → Int → ByteArray → ByteArray → ByteArray → ByteArray → ByteArray → ByteArray → List (S99) → List ByteArray → List (S101) → Int → Int → Int → Int → Int → Int → ByteArray → Int → ByteArray → Int → Int → ByteArray → Option (Bool)
 | 0, _, _, _, _, _, _, _, _, _, _, _, _, _, _, _, _, _, _, _, _, _, _, _, _, _, _, _, _, _, _, _, _, _, _, _, _, _, _, _, _, _, _, _ => none
 | k + 1, x2, x23, x402000, x402001, x402002, x402003, x402004, x402005, x402006, x402007, x402008, x402009, x402010, x403000, x403001, x403002, x403003, x403004, x403005, x403006, x403007, x403008, x403009, x403010, x403011, x403012, x403013, x403014, x403015, x403016, x403017, x403018, x403019, x403020, x403021, x403022, x403023, x404000, x404001, x404002, x404003, x404004, x404005 => if x23 = true then ((l24_known.f k).bind fun t404 => (some t404)) else ((accept_Take.f k x402000 x402001 x402002 x402003 x402004 x402005 x402006 x402007 x402008 x402009 x402010 x403000 x403001 x403002 x403003 x403004 x403005 x403006 x403007 x403008 x403009 x403010 x403011 x403012 x403013 x403014 x403015 x403016 x403017 x403018 x403019 x403020 x403021 x403022 x403023 x2 x404000 x404001 x404002 x404003 x404004 x404005).bind fun bt405 => (if bt405.2.2.2.2.2.2 = 0 then ((r05_Diff.f x403000 x403001).bind fun t414 => ((r04_Middle.f k x402000 x402001 x402002 x402003 x402004 x402005 x402006 x402007 x402008 x402009 x402010 bt405.2.2.2.1).bind fun t415 => (if x403008 < 2 then (l24_AcceptOwners.j1 k x2 bt405.1 bt405.2.1 true x402000 x402001 x402002 x402003 x402004 x402005 x402006 x402007 x402008 x402009 x402010 x403000 x403001 x403002 x403003 x403004 x403005 x403006 x403007 x403008 x403009 x403010 x403011 x403012 x403013 x403014 x403015 x403016 x403017 x403018 x403019 x403020 x403021 x403022 x403023 x404000 x404001 x404002 x404003 x404004 x404005 bt405.2.2.1 bt405.2.2.2.1 bt405.2.2.2.2.1 bt405.2.2.2.2.2.1) else (if bt405.2.2.1 = x2 then ((r21_Owner.f k x402000 x402001 x402002 x402003 x402004 x402005 x402006 x402007 x402008 x402009 x402010 bt405.2.2.2.1).bind fun t416 => (if t416 = x2 then (if bt405.2.2.2.1 = (wrap64 (x404003 - 1)) then (if bt405.2.2.2.2.1 = x403007 then (if bt405.2.2.2.2.2.1.toList = x404005.toList then ((r04_Guard.f k x402000 x402001 x402002 x402003 x402004 x402005 x402006 x402007 x402008 x402009 x402010).bind fun t417 => (if (wrap64 ((wrap64 (t414 - t415)) - (wrap64 (x402002 * x402004)))) > t417 then (l24_AcceptOwners.j1 k x2 bt405.1 bt405.2.1 true x402000 x402001 x402002 x402003 x402004 x402005 x402006 x402007 x402008 x402009 x402010 x403000 x403001 x403002 x403003 x403004 x403005 x403006 x403007 x403008 x403009 x403010 x403011 x403012 x403013 x403014 x403015 x403016 x403017 x403018 x403019 x403020 x403021 x403022 x403023 x404000 x404001 x404002 x404003 x404004 x404005 bt405.2.2.1 bt405.2.2.2.1 bt405.2.2.2.2.1 bt405.2.2.2.2.2.1) else ((r04_Guard.f k x402000 x402001 x402002 x402003 x402004 x402005 x402006 x402007 x402008 x402009 x402010).bind fun t418 => (l24_AcceptOwners.j1 k x2 bt405.1 bt405.2.1 (decide ((wrap64 (-(wrap64 ((wrap64 (t414 - t415)) - (wrap64 (x402002 * x402004)))))) > t418)) x402000 x402001 x402002 x402003 x402004 x402005 x402006 x402007 x402008 x402009 x402010 x403000 x403001 x403002 x403003 x403004 x403005 x403006 x403007 x403008 x403009 x403010 x403011 x403012 x403013 x403014 x403015 x403016 x403017 x403018 x403019 x403020 x403021 x403022 x403023 x404000 x404001 x404002 x404003 x404004 x404005 bt405.2.2.1 bt405.2.2.2.1 bt405.2.2.2.2.1 bt405.2.2.2.2.2.1)))) else (l24_AcceptOwners.j1 k x2 bt405.1 bt405.2.1 true x402000 x402001 x402002 x402003 x402004 x402005 x402006 x402007 x402008 x402009 x402010 x403000 x403001 x403002 x403003 x403004 x403005 x403006 x403007 x403008 x403009 x403010 x403011 x403012 x403013 x403014 x403015 x403016 x403017 x403018 x403019 x403020 x403021 x403022 x403023 x404000 x404001 x404002 x404003 x404004 x404005 bt405.2.2.1 bt405.2.2.2.1 bt405.2.2.2.2.1 bt405.2.2.2.2.2.1)) else (l24_AcceptOwners.j1 k x2 bt405.1 bt405.2.1 true x402000 x402001 x402002 x402003 x402004 x402005 x402006 x402007 x402008 x402009 x402010 x403000 x403001 x403002 x403003 x403004 x403005 x403006 x403007 x403008 x403009 x403010 x403011 x403012 x403013 x403014 x403015 x403016 x403017 x403018 x403019 x403020 x403021 x403022 x403023 x404000 x404001 x404002 x404003 x404004 x404005 bt405.2.2.1 bt405.2.2.2.1 bt405.2.2.2.2.1 bt405.2.2.2.2.2.1)) else (l24_AcceptOwners.j1 k x2 bt405.1 bt405.2.1 true x402000 x402001 x402002 x402003 x402004 x402005 x402006 x402007 x402008 x402009 x402010 x403000 x403001 x403002 x403003 x403004 x403005 x403006 x403007 x403008 x403009 x403010 x403011 x403012 x403013 x403014 x403015 x403016 x403017 x403018 x403019 x403020 x403021 x403022 x403023 x404000 x404001 x404002 x404003 x404004 x404005 bt405.2.2.1 bt405.2.2.2.1 bt405.2.2.2.2.1 bt405.2.2.2.2.2.1)) else (l24_AcceptOwners.j1 k x2 bt405.1 bt405.2.1 true x402000 x402001 x402002 x402003 x402004 x402005 x402006 x402007 x402008 x402009 x402010 x403000 x403001 x403002 x403003 x403004 x403005 x403006 x403007 x403008 x403009 x403010 x403011 x403012 x403013 x403014 x403015 x403016 x403017 x403018 x403019 x403020 x403021 x403022 x403023 x404000 x404001 x404002 x404003 x404004 x404005 bt405.2.2.1 bt405.2.2.2.1 bt405.2.2.2.2.1 bt405.2.2.2.2.2.1))) else (l24_AcceptOwners.j1 k x2 bt405.1 bt405.2.1 true x402000 x402001 x402002 x402003 x402004 x402005 x402006 x402007 x402008 x402009 x402010 x403000 x403001 x403002 x403003 x403004 x403005 x403006 x403007 x403008 x403009 x403010 x403011 x403012 x403013 x403014 x403015 x403016 x403017 x403018 x403019 x403020 x403021 x403022 x403023 x404000 x404001 x404002 x404003 x404004 x404005 bt405.2.2.1 bt405.2.2.2.1 bt405.2.2.2.2.1 bt405.2.2.2.2.2.1))))) else (if bt405.1.toList = ([] : List UInt8) then (if bt405.2.1.toList = ([] : List UInt8) then (if (bt405.2.2.1 == 0 && (bt405.2.2.2.1 == 0 && (bt405.2.2.2.2.1 == 0 && (bt405.2.2.2.2.2.1.toList == ([] : List UInt8))))) = true then ((l24_known.f k).bind fun t413 => (some t413)) else (none)) else (none)) else (none))))
def l24_AcceptOwners.j1 : Nat → Int → ByteArray → ByteArray → Bool → Int → Int → Int → Int → Int → Int → Int → Int → Int → Int → List Int → Int → Int → Int → ByteArray → Int → ByteArray → ByteArray → Int → Int → ByteArray → ByteArray → ByteArray → ByteArray → ByteArray → ByteArray → List (S99) → List ByteArray → List (S101) → Int → Int → Int → Int → Int → Int → ByteArray → Int → ByteArray → Int → Int → ByteArray → Int → Int → Int → ByteArray → Option (Bool)
 | 0, _, _, _, _, _, _, _, _, _, _, _, _, _, _, _, _, _, _, _, _, _, _, _, _, _, _, _, _, _, _, _, _, _, _, _, _, _, _, _, _, _, _, _, _, _, _, _, _, _ => none
 | k + 1, x2, x9, x10, x118, x402000, x402001, x402002, x402003, x402004, x402005, x402006, x402007, x402008, x402009, x402010, x403000, x403001, x403002, x403003, x403004, x403005, x403006, x403007, x403008, x403009, x403010, x403011, x403012, x403013, x403014, x403015, x403016, x403017, x403018, x403019, x403020, x403021, x403022, x403023, x404000, x404001, x404002, x404003, x404004, x404005, x413000, x413001, x413002, x413003 => if x118 = true then (none) else ((r23_Has.f x403011 x413001).bind fun t419 => (if t419 = true then (l24_AcceptOwners.j2 k x2 x9 x10 true x402000 x402001 x402002 x402003 x402004 x402005 x402006 x402007 x402008 x402009 x402010 x403000 x403001 x403002 x403003 x403004 x403005 x403006 x403007 x403008 x403009 x403010 x403011 x403012 x403013 x403014 x403015 x403016 x403017 x403018 x403019 x403020 x403021 x403022 x403023 x404000 x404001 x404002 x404003 x404004 x404005) else ((r23_Has.f x9 x413001).bind fun t420 => (if t420 = true then ((r23_Has.f x10 x2).bind fun t421 => (l24_AcceptOwners.j2 k x2 x9 x10 (!t421) x402000 x402001 x402002 x402003 x402004 x402005 x402006 x402007 x402008 x402009 x402010 x403000 x403001 x403002 x403003 x403004 x403005 x403006 x403007 x403008 x403009 x403010 x403011 x403012 x403013 x403014 x403015 x403016 x403017 x403018 x403019 x403020 x403021 x403022 x403023 x404000 x404001 x404002 x404003 x404004 x404005)) else (l24_AcceptOwners.j2 k x2 x9 x10 true x402000 x402001 x402002 x402003 x402004 x402005 x402006 x402007 x402008 x402009 x402010 x403000 x403001 x403002 x403003 x403004 x403005 x403006 x403007 x403008 x403009 x403010 x403011 x403012 x403013 x403014 x403015 x403016 x403017 x403018 x403019 x403020 x403021 x403022 x403023 x404000 x404001 x404002 x404003 x404004 x404005)))))
def l24_AcceptOwners.j2 : Nat → Int → ByteArray → ByteArray → Bool → Int → Int → Int → Int → Int → Int → Int → Int → Int → Int → List Int → Int → Int → Int → ByteArray → Int → ByteArray → ByteArray → Int → Int → ByteArray → ByteArray → ByteArray → ByteArray → ByteArray → ByteArray → List (S99) → List ByteArray → List (S101) → Int → Int → Int → Int → Int → Int → ByteArray → Int → ByteArray → Int → Int → ByteArray → Option (Bool)
 | 0, _, _, _, _, _, _, _, _, _, _, _, _, _, _, _, _, _, _, _, _, _, _, _, _, _, _, _, _, _, _, _, _, _, _, _, _, _, _, _, _, _, _, _, _, _ => none
 | k + 1, x2, x9, x10, x136, x402000, x402001, x402002, x402003, x402004, x402005, x402006, x402007, x402008, x402009, x402010, x403000, x403001, x403002, x403003, x403004, x403005, x403006, x403007, x403008, x403009, x403010, x403011, x403012, x403013, x403014, x403015, x403016, x403017, x403018, x403019, x403020, x403021, x403022, x403023, x404000, x404001, x404002, x404003, x404004, x404005 => if x136 = true then (none) else ((accept_Check.f k x402000 x402001 x402002 x402003 x402004 x402005 x402006 x402007 x402008 x402009 x402010 x403000 x403001 x403002 x403003 x403004 x403005 x403006 x403007 x403008 x403009 x10 x9 x403012 x403013 x403014 x403015 x403016 x403017 x403018 x403019 x403020 x403021 x403022 x403023 x2 x404000 x404001 x404002 x404003 x404004 x404005).bind fun t422 => (if t422 = 13 then ((l24_known.f k).bind fun t423 => (some t423)) else (none)))
end
def l24_AcceptOwners.f (k : Nat) (a0_0 a0_1 a0_2 a0_3 a0_4 a0_5 a0_6 a0_7 a0_8 a0_9 : Int) (l0_10 : List Int) (a1_0 a1_1 a1_2 : Int) (a1_3 : ByteArray) (a1_4 : Int) (a1_5 a1_6 : ByteArray) (a1_7 a1_8 : Int) (a1_9 a1_10 a1_11 a1_12 a1_13 a1_14 : ByteArray) (l1_15 : List (S99)) (l1_16 : List ByteArray) (l1_17 : List (S101)) (a1_18 a1_19 a1_20 a1_21 a1_22 a1_23 a2 : Int) (a3_0 : ByteArray) (a3_1 : Int) (a3_2 : ByteArray) (a3_3 a3_4 : Int) (a3_5 : ByteArray) : Option (Bool) := if (a1_11.size : Int) > 100 then (l24_AcceptOwners.j0 k a2 true a0_0 a0_1 a0_2 a0_3 a0_4 a0_5 a0_6 a0_7 a0_8 a0_9 l0_10 a1_0 a1_1 a1_2 a1_3 a1_4 a1_5 a1_6 a1_7 a1_8 a1_9 a1_10 a1_11 a1_12 a1_13 a1_14 l1_15 l1_16 l1_17 a1_18 a1_19 a1_20 a1_21 a1_22 a1_23 a3_0 a3_1 a3_2 a3_3 a3_4 a3_5) else (l24_AcceptOwners.j0 k a2 (decide ((a1_10.size : Int) > 100)) a0_0 a0_1 a0_2 a0_3 a0_4 a0_5 a0_6 a0_7 a0_8 a0_9 l0_10 a1_0 a1_1 a1_2 a1_3 a1_4 a1_5 a1_6 a1_7 a1_8 a1_9 a1_10 a1_11 a1_12 a1_13 a1_14 l1_15 l1_16 l1_17 a1_18 a1_19 a1_20 a1_21 a1_22 a1_23 a3_0 a3_1 a3_2 a3_3 a3_4 a3_5)
def l24_AcceptOwners.T6 : Bool × List (List Nat × List Nat) := (true, [([], []), ([0], [0]), ([], []), ([2], [2]), ([1, 3], [1, 3]), ([], []), ([], []), ([6], [6]), ([5, 7, 4], [5, 7]), ([4, 8], [4, 8]), ([], []), ([10], [10]), ([], []), ([12], [12]), ([11, 13], [11, 13]), ([9, 14], [9, 14]), ([15, 8, 0, 1, 2, 3, 4, 5, 6, 7, 8, 9, 10, 11, 12, 13, 14, 15], [15])])
def l24_AcceptOwners.B6 : List Nat := [0, 1, 0, 4, 15, 0, 0, 64, 255, 511, 0, 1024, 0, 4096, 15360, 32767, 65535]
theorem l24_AcceptOwners.tab6 : rtab .any (opsOf Try.f5 6) = l24_AcceptOwners.T6 := by kernel_rfl
theorem l24_AcceptOwners.bits6 : waitsOk l24_AcceptOwners.T6.2 l24_AcceptOwners.B6 = true := by kernel_rfl
set_option maxHeartbeats 8000000 in
set_option maxRecDepth 100000 in
theorem l24_AcceptOwners.calls (k : Nat) (a0_0 a0_1 a0_2 a0_3 a0_4 a0_5 a0_6 a0_7 a0_8 a0_9 : Int) (A0_10 : Option Addr) (c0_10 : Nat) (l0_10 : List Int) (a1_0 a1_1 a1_2 : Int) (a1_3 : ByteArray) (a1_4 : Int) (a1_5 a1_6 : ByteArray) (a1_7 a1_8 : Int) (a1_9 a1_10 a1_11 a1_12 a1_13 a1_14 : ByteArray) (A1_15 : Option Addr) (c1_15 : Nat) (l1_15 : List (S99)) (A1_16 : Option Addr) (c1_16 : Nat) (l1_16 : List ByteArray) (A1_17 : Option Addr) (c1_17 : Nat) (l1_17 : List (S101)) (a1_18 a1_19 a1_20 a1_21 a1_22 a1_23 a2 : Int) (a3_0 : ByteArray) (a3_1 : Int) (a3_2 : ByteArray) (a3_3 a3_4 : Int) (a3_5 : ByteArray) (r : Bool) (w : World) (hr0_10 : Kd.C (Kd.int .i64) w A0_10 l0_10.length l0_10) (hc0_10 : l0_10.length ≤ c0_10) (hr1_15 : Kd.C k99 w A1_15 l1_15.length l1_15) (hc1_15 : l1_15.length ≤ c1_15) (hr1_16 : Kd.C Kd.string w A1_16 l1_16.length l1_16) (hc1_16 : l1_16.length ≤ c1_16) (hr1_17 : Kd.C k101 w A1_17 l1_17.length l1_17) (hc1_17 : l1_17.length ≤ c1_17) (h : l24_AcceptOwners.f k a0_0 a0_1 a0_2 a0_3 a0_4 a0_5 a0_6 a0_7 a0_8 a0_9 l0_10 a1_0 a1_1 a1_2 a1_3 a1_4 a1_5 a1_6 a1_7 a1_8 a1_9 a1_10 a1_11 a1_12 a1_13 a1_14 l1_15 l1_16 l1_17 a1_18 a1_19 a1_20 a1_21 a1_22 a1_23 a2 a3_0 a3_1 a3_2 a3_3 a3_4 a3_5 = some r) :
  Calls Try.prog 5 #[.agg #[.int .i64 a0_0, .int .i64 a0_1, .int .i64 a0_2, .int .i64 a0_3, .int .i64 a0_4, .int .i64 a0_5, .int .i64 a0_6, .int .i64 a0_7, .int .i64 a0_8, .int .i64 a0_9, .slice A0_10 l0_10.length c0_10], .agg #[.int .i64 a1_0, .int .i64 a1_1, .int .i64 a1_2, .string a1_3, .int .i64 a1_4, .string a1_5, .string a1_6, .int .i64 a1_7, .int .i64 a1_8, .string a1_9, .string a1_10, .string a1_11, .string a1_12, .string a1_13, .string a1_14, .slice A1_15 l1_15.length c1_15, .slice A1_16 l1_16.length c1_16, .slice A1_17 l1_17.length c1_17, .int .i64 a1_18, .int .i64 a1_19, .int .i64 a1_20, .int .i64 a1_21, .int .i64 a1_22, .int .i64 a1_23], .int .i64 a2, .agg #[.string a3_0, .int .i64 a3_1, .string a3_2, .int .i64 a3_3, .int .i64 a3_4, .string a3_5]] w fun e w' => e = .returned (.bool r) ∧ Below w.heap.size w w' := by
 have hu35 := Try.underlying35
 have HR0_10 := Aside0.mk hr0_10
 have HC0_10 := Aside0.mk hc0_10
 clear hr0_10 hc0_10
 have HR1_15 := Aside0.mk hr1_15
 have HC1_15 := Aside0.mk hc1_15
 clear hr1_15 hc1_15
 have HR1_16 := Aside0.mk hr1_16
 have HC1_16 := Aside0.mk hc1_16
 clear hr1_16 hc1_16
 have HR1_17 := Aside0.mk hr1_17
 have HC1_17 := Aside0.mk hc1_17
 clear hr1_17 hc1_17
 have HB := Aside0.mk (Below.refl w.heap.size w)
 have H : (if (a1_11.size : Int) > 100 then (l24_AcceptOwners.j0 k a2 true a0_0 a0_1 a0_2 a0_3 a0_4 a0_5 a0_6 a0_7 a0_8 a0_9 l0_10 a1_0 a1_1 a1_2 a1_3 a1_4 a1_5 a1_6 a1_7 a1_8 a1_9 a1_10 a1_11 a1_12 a1_13 a1_14 l1_15 l1_16 l1_17 a1_18 a1_19 a1_20 a1_21 a1_22 a1_23 a3_0 a3_1 a3_2 a3_3 a3_4 a3_5) else (l24_AcceptOwners.j0 k a2 (decide ((a1_10.size : Int) > 100)) a0_0 a0_1 a0_2 a0_3 a0_4 a0_5 a0_6 a0_7 a0_8 a0_9 l0_10 a1_0 a1_1 a1_2 a1_3 a1_4 a1_5 a1_6 a1_7 a1_8 a1_9 a1_10 a1_11 a1_12 a1_13 a1_14 l1_15 l1_16 l1_17 a1_18 a1_19 a1_20 a1_21 a1_22 a1_23 a3_0 a3_1 a3_2 a3_3 a3_4 a3_5)) = some r := h
 clear h
 have HC5 := Aside0.mk H
 clear H
 go_enter Try.func5, Try.ntmps5
 go_upto_region 1 with (first | ((with_reducible refine gate_load (t := 24) (x := .tmp 4) rfl ?_); refine load_row_g (cs := ?_) ?hw 24 (.tmp 4) ?h2 gb401 ?hx 24 (fr := (0, 0)) (d := ?_) ?hg ?h3 ?h4 ?hi ?_; (case hw => first | (with_reducible rfl) | (go_simp; done) | rfl); (case h2 => rfl); (case hx => first | (with_reducible rfl) | (go_simp; done) | rfl); (case hg => (with_reducible repeat (first | refine blk_drewN ?_ _ | refine blk_drew ?_ | refine blk_alloc ?_ _)); with_reducible exact BK401.out); (case h3 => exact Try.underlying24); (case h4 => rfl); (case hi => kernel_rfl)) | ((with_reducible refine gate_load (t := 30) (x := .tmp 5) rfl ?_); refine load_row_g (cs := ?_) ?hw 30 (.tmp 5) ?h2 gb402 ?hx 30 (fr := (0, 0)) (d := ?_) ?hg ?h3 ?h4 ?hi ?_; (case hw => first | (with_reducible rfl) | (go_simp; done) | rfl); (case h2 => rfl); (case hx => first | (with_reducible rfl) | (go_simp; done) | rfl); (case hg => (with_reducible repeat (first | refine blk_drewN ?_ _ | refine blk_drew ?_ | refine blk_alloc ?_ _)); with_reducible exact BK402.out); (case h3 => exact Try.underlying30); (case h4 => rfl); (case hi => kernel_rfl)) | ((with_reducible refine gate_load (t := 32) (x := .tmp 7) rfl ?_); refine load_row_g (cs := ?_) ?hw 32 (.tmp 7) ?h2 gb403 ?hx 32 (fr := (0, 0)) (d := ?_) ?hg ?h3 ?h4 ?hi ?_; (case hw => first | (with_reducible rfl) | (go_simp; done) | rfl); (case h2 => rfl); (case hx => first | (with_reducible rfl) | (go_simp; done) | rfl); (case hg => (with_reducible repeat (first | refine blk_drewN ?_ _ | refine blk_drew ?_ | refine blk_alloc ?_ _)); with_reducible exact BK403.out); (case h3 => exact Try.underlying32); (case h4 => rfl); (case hi => kernel_rfl)) | ((with_reducible refine gate_dst (N := 4) rfl ?_); (try (refine gate_guard (by rfl) ?_; dsimp only)); refine box_event ?hg (N := 4) ?hd (cs := #[.int .i64 a0_0, .int .i64 a0_1, .int .i64 a0_2, .int .i64 a0_3, .int .i64 a0_4, .int .i64 a0_5, .int .i64 a0_6, .int .i64 a0_7, .int .i64 a0_8, .int .i64 a0_9, .slice A0_10 l0_10.length c0_10]) (t := 24) ?hr ?_; (case hd => rfl); (case hg => rfl); (case hr => first | (go_simp; done) | (go_simp; rfl)); intro gb401 hg w6 hbox hb; have n0_ := Aside0.mk (below_step (by repeat (first | (with_reducible first | exact HB.out | apply below_alloc | apply pw_below_drewN | apply below_drew1) | exact HB.out)) hb); have n1_ := Aside0.mk (hbox); have n2_ := Aside0.mk ((by rw [hg]; exact (below_size (by repeat (first | (with_reducible first | exact HB.out | apply below_alloc | apply pw_below_drewN | apply below_drew1) | exact HB.out))) : w.heap.size ≤ gb401)); have n3_ := Aside0.mk ((by rw [hg]; exact (below_size (by repeat (first | (with_reducible first | exact HB.out | apply below_alloc | apply pw_below_drewN | apply below_drew1) | exact HB.out))) : w.heap.size ≤ gb401)); clear HB; have HB := n0_; have BK401 := n1_; have GW401 := n2_; have GE401 := n3_; clear n0_ n1_ n2_ n3_; clear hb hbox hg) | ((with_reducible refine gate_dst (N := 5) rfl ?_); (try (refine gate_guard (by rfl) ?_; dsimp only)); refine box_event ?hg (N := 5) ?hd (cs := #[.int .i64 a1_0, .int .i64 a1_1, .int .i64 a1_2, .string a1_3, .int .i64 a1_4, .string a1_5, .string a1_6, .int .i64 a1_7, .int .i64 a1_8, .string a1_9, .string a1_10, .string a1_11, .string a1_12, .string a1_13, .string a1_14, .slice A1_15 l1_15.length c1_15, .slice A1_16 l1_16.length c1_16, .slice A1_17 l1_17.length c1_17, .int .i64 a1_18, .int .i64 a1_19, .int .i64 a1_20, .int .i64 a1_21, .int .i64 a1_22, .int .i64 a1_23]) (t := 30) ?hr ?_; (case hd => rfl); (case hg => rfl); (case hr => first | (go_simp; done) | (go_simp; rfl)); intro gb402 hg w7 hbox hb; have n0_ := Aside0.mk (blk_below (by (with_reducible repeat (first | refine blk_drewN ?_ _ | refine blk_drew ?_ | refine blk_alloc ?_ _)); exact BK401.out) hb); have n1_ := Aside0.mk (below_step (by repeat (first | (with_reducible first | exact HB.out | apply below_alloc | apply pw_below_drewN | apply below_drew1 | refine below_set ?_ GE401.out) | exact HB.out)) hb); have n2_ := Aside0.mk (hbox); have n3_ := Aside0.mk ((by rw [hg]; exact (below_size (by repeat (first | (with_reducible first | exact HB.out | apply below_alloc | apply pw_below_drewN | apply below_drew1 | refine below_set ?_ GE401.out) | exact HB.out))) : w.heap.size ≤ gb402)); have n4_ := Aside0.mk ((by rw [hg]; exact (below_size (by repeat (first | (with_reducible first | exact HB.out | apply below_alloc | apply pw_below_drewN | apply below_drew1 | refine below_set ?_ GE401.out) | exact HB.out))) : w.heap.size ≤ gb402)); have n5_ := Aside0.mk ((by rw [hg]; exact Nat.ne_of_lt (blk_lt (by (with_reducible repeat (first | refine blk_drewN ?_ _ | refine blk_drew ?_ | refine blk_alloc ?_ _)); exact BK401.out)) : gb401 ≠ gb402)); have n6_ := Aside0.mk ((by rw [hg]; exact Nat.ne_of_gt (blk_lt (by (with_reducible repeat (first | refine blk_drewN ?_ _ | refine blk_drew ?_ | refine blk_alloc ?_ _)); exact BK401.out)) : gb402 ≠ gb401)); clear BK401; clear HB; have BK401 := n0_; have HB := n1_; have BK402 := n2_; have GW402 := n3_; have GE402 := n4_; have NB401_402 := n5_; have NB402_401 := n6_; clear n0_ n1_ n2_ n3_ n4_ n5_ n6_; clear hb hbox hg) | ((with_reducible refine gate_dst (N := 7) rfl ?_); (try (refine gate_guard (by rfl) ?_; dsimp only)); refine box_event ?hg (N := 7) ?hd (cs := #[.string a3_0, .int .i64 a3_1, .string a3_2, .int .i64 a3_3, .int .i64 a3_4, .string a3_5]) (t := 32) ?hr ?_; (case hd => rfl); (case hg => rfl); (case hr => first | (go_simp; done) | (go_simp; rfl)); intro gb403 hg w8 hbox hb; have n0_ := Aside0.mk (blk_below (by (with_reducible repeat (first | refine blk_drewN ?_ _ | refine blk_drew ?_ | refine blk_alloc ?_ _)); exact BK401.out) hb); have n1_ := Aside0.mk (blk_below (by (with_reducible repeat (first | refine blk_drewN ?_ _ | refine blk_drew ?_ | refine blk_alloc ?_ _)); exact BK402.out) hb); have n2_ := Aside0.mk (below_step (by repeat (first | (with_reducible first | exact HB.out | apply below_alloc | apply pw_below_drewN | apply below_drew1 | refine below_set ?_ GE401.out | refine below_set ?_ GE402.out) | exact HB.out)) hb); have n3_ := Aside0.mk (hbox); have n4_ := Aside0.mk ((by rw [hg]; exact (below_size (by repeat (first | (with_reducible first | exact HB.out | apply below_alloc | apply pw_below_drewN | apply below_drew1 | refine below_set ?_ GE401.out | refine below_set ?_ GE402.out) | exact HB.out))) : w.heap.size ≤ gb403)); have n5_ := Aside0.mk ((by rw [hg]; exact (below_size (by repeat (first | (with_reducible first | exact HB.out | apply below_alloc | apply pw_below_drewN | apply below_drew1 | refine below_set ?_ GE401.out | refine below_set ?_ GE402.out) | exact HB.out))) : w.heap.size ≤ gb403)); have n6_ := Aside0.mk ((by rw [hg]; exact Nat.ne_of_lt (blk_lt (by (with_reducible repeat (first | refine blk_drewN ?_ _ | refine blk_drew ?_ | refine blk_alloc ?_ _)); exact BK401.out)) : gb401 ≠ gb403)); have n7_ := Aside0.mk ((by rw [hg]; exact Nat.ne_of_gt (blk_lt (by (with_reducible repeat (first | refine blk_drewN ?_ _ | refine blk_drew ?_ | refine blk_alloc ?_ _)); exact BK401.out)) : gb403 ≠ gb401)); have n8_ := Aside0.mk ((by rw [hg]; exact Nat.ne_of_lt (blk_lt (by (with_reducible repeat (first | refine blk_drewN ?_ _ | refine blk_drew ?_ | refine blk_alloc ?_ _)); exact BK402.out)) : gb402 ≠ gb403)); have n9_ := Aside0.mk ((by rw [hg]; exact Nat.ne_of_gt (blk_lt (by (with_reducible repeat (first | refine blk_drewN ?_ _ | refine blk_drew ?_ | refine blk_alloc ?_ _)); exact BK402.out)) : gb403 ≠ gb402)); clear BK401; clear BK402; clear HB; have BK401 := n0_; have BK402 := n1_; have HB := n2_; have BK403 := n3_; have GW403 := n4_; have GE403 := n5_; have NB401_403 := n6_; have NB403_401 := n7_; have NB402_403 := n8_; have NB403_402 := n9_; clear n0_ n1_ n2_ n3_ n4_ n5_ n6_ n7_ n8_ n9_; clear hb hbox hg))
 (try simp only [Act.put, List.setIfInBounds_toArray, List.set_cons_zero, List.set_cons_succ])
 go_cut [23] (fun v23 wc => ∃ (kq : Nat) (x23_4 : Bool), v23 = .bool x23_4 ∧ Aside0 (l24_AcceptOwners.j0 kq a2 x23_4 a0_0 a0_1 a0_2 a0_3 a0_4 a0_5 a0_6 a0_7 a0_8 a0_9 l0_10 a1_0 a1_1 a1_2 a1_3 a1_4 a1_5 a1_6 a1_7 a1_8 a1_9 a1_10 a1_11 a1_12 a1_13 a1_14 l1_15 l1_16 l1_17 a1_18 a1_19 a1_20 a1_21 a1_22 a1_23 a3_0 a3_1 a3_2 a3_3 a3_4 a3_5 = some r) ∧ Aside0 (kq ≤ k) ∧ Aside0 (wc.heap[gb401]? = some (.cells #[.int .i64 a0_0, .int .i64 a0_1, .int .i64 a0_2, .int .i64 a0_3, .int .i64 a0_4, .int .i64 a0_5, .int .i64 a0_6, .int .i64 a0_7, .int .i64 a0_8, .int .i64 a0_9, (.slice A0_10 l0_10.length c0_10)] 24 (0, 0))) ∧ Aside0 (wc.heap[gb402]? = some (.cells #[.int .i64 a1_0, .int .i64 a1_1, .int .i64 a1_2, .string a1_3, .int .i64 a1_4, .string a1_5, .string a1_6, .int .i64 a1_7, .int .i64 a1_8, .string a1_9, .string a1_10, .string a1_11, .string a1_12, .string a1_13, .string a1_14, (.slice A1_15 l1_15.length c1_15), (.slice A1_16 l1_16.length c1_16), (.slice A1_17 l1_17.length c1_17), .int .i64 a1_18, .int .i64 a1_19, .int .i64 a1_20, .int .i64 a1_21, .int .i64 a1_22, .int .i64 a1_23] 30 (0, 0))) ∧ Aside0 (wc.heap[gb403]? = some (.cells #[.string a3_0, .int .i64 a3_1, .string a3_2, .int .i64 a3_3, .int .i64 a3_4, .string a3_5] 32 (0, 0))) ∧ Aside0 (Below w.heap.size w wc))
 case first =>
  have H := HC5.out
  clear HC5
  by_cases c9 : (a1_11.size : Int) > 100
  ·rw [if_pos c9] at H
   have c9b0 : decide (100 < (a1_11.size : Int)) = true := decide_eq_true c9
   have c9b1 : decide (100 < a1_11.size) = true := decide_eq_true (by omega)
   clear c9
   (first | rw [c9b0] | (simp only [i64_w, i32_w]; rw [c9b0]) | skip)
   have H' := Aside0.mk H
   clear H
   have hnb10 := NB402_401.out
   have hnc10 := NB401_402.out
   have hnb11 := NB402_403.out
   have hnc11 := NB403_402.out
   obtain ⟨hcz12_0, hcz12_1, hcz12_2, hcz12_3, hcz12_4, hcz12_5, hcz12_6, hcz12_7, hcz12_8, hcz12_9, hcz12_10, hcz12_11, hcz12_12, hcz12_13, hcz12_14, hcz12_15, hcz12_16, hcz12_17, hcz12_18, hcz12_19, hcz12_20, hcz12_21, hcz12_22, hcz12_23⟩ := cells_24 BK402.out
   obtain ⟨hfz12_0, hfz12_1, hfz12_2, hfz12_3, hfz12_4, hfz12_5, hfz12_6, hfz12_7, hfz12_8, hfz12_9, hfz12_10, hfz12_11, hfz12_12, hfz12_13, hfz12_14, hfz12_15, hfz12_16, hfz12_17, hfz12_18, hfz12_19, hfz12_20, hfz12_21, hfz12_22, hfz12_23⟩ := frozen_24 BK402.out
   go_wp2
   go_meet
   case rel => exact ⟨_, (true), (by first | rfl | (simp; done) | (simp [*]; done)), H', ⟨by first | omega | exact Nat.le_refl _⟩, ⟨by (with_reducible repeat (first | refine blk_drewN ?_ _ | refine blk_drew ?_ | refine blk_alloc ?_ _)); exact BK401.out⟩, ⟨by (with_reducible repeat (first | refine blk_drewN ?_ _ | refine blk_drew ?_ | refine blk_alloc ?_ _)); exact BK402.out⟩, ⟨by (with_reducible repeat (first | refine blk_drewN ?_ _ | refine blk_drew ?_ | refine blk_alloc ?_ _)); exact BK403.out⟩, ⟨by repeat (first | (with_reducible first | exact HB.out | apply below_alloc | apply pw_below_drewN | apply below_drew1 | refine below_set ?_ GE401.out | refine below_set ?_ GE402.out | refine below_set ?_ GE403.out) | exact HB.out)⟩⟩
  ·rw [if_neg c9] at H
   have c9b0 : decide (100 < (a1_11.size : Int)) = false := decide_eq_false c9
   have c9b1 : decide (100 < a1_11.size) = false := decide_eq_false (by omega)
   clear c9
   (first | rw [c9b0] | (simp only [i64_w, i32_w]; rw [c9b0]) | skip)
   have H' := Aside0.mk H
   clear H
   have hnb13 := NB402_401.out
   have hnc13 := NB401_402.out
   have hnb14 := NB402_403.out
   have hnc14 := NB403_402.out
   obtain ⟨hcz15_0, hcz15_1, hcz15_2, hcz15_3, hcz15_4, hcz15_5, hcz15_6, hcz15_7, hcz15_8, hcz15_9, hcz15_10, hcz15_11, hcz15_12, hcz15_13, hcz15_14, hcz15_15, hcz15_16, hcz15_17, hcz15_18, hcz15_19, hcz15_20, hcz15_21, hcz15_22, hcz15_23⟩ := cells_24 BK402.out
   obtain ⟨hfz15_0, hfz15_1, hfz15_2, hfz15_3, hfz15_4, hfz15_5, hfz15_6, hfz15_7, hfz15_8, hfz15_9, hfz15_10, hfz15_11, hfz15_12, hfz15_13, hfz15_14, hfz15_15, hfz15_16, hfz15_17, hfz15_18, hfz15_19, hfz15_20, hfz15_21, hfz15_22, hfz15_23⟩ := frozen_24 BK402.out
   go_wp2
   go_meet
   case rel => exact ⟨_, (decide ((a1_10.size : Int) > 100)), (by first | rfl | (simp; done) | (simp [*]; done)), H', ⟨by first | omega | exact Nat.le_refl _⟩, ⟨by (with_reducible repeat (first | refine blk_drewN ?_ _ | refine blk_drew ?_ | refine blk_alloc ?_ _)); exact BK401.out⟩, ⟨by (with_reducible repeat (first | refine blk_drewN ?_ _ | refine blk_drew ?_ | refine blk_alloc ?_ _)); exact BK402.out⟩, ⟨by (with_reducible repeat (first | refine blk_drewN ?_ _ | refine blk_drew ?_ | refine blk_alloc ?_ _)); exact BK403.out⟩, ⟨by repeat (first | (with_reducible first | exact HB.out | apply below_alloc | apply pw_below_drewN | apply below_drew1 | refine below_set ?_ GE401.out | refine below_set ?_ GE402.out | refine below_set ?_ GE403.out) | exact HB.out)⟩⟩
 case rest =>
  clear HC5
  try clear c1
  try clear p2
  try clear c5
  try clear c9
  try clear c9b0
  try clear c9b1
  try clear c10
  try clear c11
  try clear c13
  try clear c14
  try clear hcz12_0
  try clear hcz12_1
  try clear hcz12_10
  try clear hcz12_11
  try clear hcz12_12
  try clear hcz12_13
  try clear hcz12_14
  try clear hcz12_15
  try clear hcz12_16
  try clear hcz12_17
  try clear hcz12_18
  try clear hcz12_19
  try clear hcz12_2
  try clear hcz12_20
  try clear hcz12_21
  try clear hcz12_22
  try clear hcz12_23
  try clear hcz12_3
  try clear hcz12_4
  try clear hcz12_5
  try clear hcz12_6
  try clear hcz12_7
  try clear hcz12_8
  try clear hcz12_9
  try clear hcz15_0
  try clear hcz15_1
  try clear hcz15_10
  try clear hcz15_11
  try clear hcz15_12
  try clear hcz15_13
  try clear hcz15_14
  try clear hcz15_15
  try clear hcz15_16
  try clear hcz15_17
  try clear hcz15_18
  try clear hcz15_19
  try clear hcz15_2
  try clear hcz15_20
  try clear hcz15_21
  try clear hcz15_22
  try clear hcz15_23
  try clear hcz15_3
  try clear hcz15_4
  try clear hcz15_5
  try clear hcz15_6
  try clear hcz15_7
  try clear hcz15_8
  try clear hcz15_9
  try clear hfz12_0
  try clear hfz12_1
  try clear hfz12_10
  try clear hfz12_11
  try clear hfz12_12
  try clear hfz12_13
  try clear hfz12_14
  try clear hfz12_15
  try clear hfz12_16
  try clear hfz12_17
  try clear hfz12_18
  try clear hfz12_19
  try clear hfz12_2
  try clear hfz12_20
  try clear hfz12_21
  try clear hfz12_22
  try clear hfz12_23
  try clear hfz12_3
  try clear hfz12_4
  try clear hfz12_5
  try clear hfz12_6
  try clear hfz12_7
  try clear hfz12_8
  try clear hfz12_9
  try clear hfz15_0
  try clear hfz15_1
  try clear hfz15_10
  try clear hfz15_11
  try clear hfz15_12
  try clear hfz15_13
  try clear hfz15_14
  try clear hfz15_15
  try clear hfz15_16
  try clear hfz15_17
  try clear hfz15_18
  try clear hfz15_19
  try clear hfz15_2
  try clear hfz15_20
  try clear hfz15_21
  try clear hfz15_22
  try clear hfz15_23
  try clear hfz15_3
  try clear hfz15_4
  try clear hfz15_5
  try clear hfz15_6
  try clear hfz15_7
  try clear hfz15_8
  try clear hfz15_9
  obtain ⟨kq, x23_4, rfl, HA, HJ4, BK401, BK402, BK403, HB⟩ := hcut
  cases kq with
  | zero => exact absurd HA.out (by simp [l24_AcceptOwners.j0])
  | succ kj4 =>
   have H := HA.out
   clear HA
   simp only [l24_AcceptOwners.j0] at H
   by_cases c16 : x23_4 = true
   ·subst c16
    have H1 : ((l24_known.f kj4).bind fun t404 => (some t404)) = some r := by rw [if_pos rfl] at H; exact H
    clear H
    have H := H1
    clear H1
    replace H := Option.bind_eq_some_iff.mp H
    obtain ⟨t404, A170, H⟩ := H
    replace H : (some t404) = some r := H
    have A17 := Aside0.mk A170
    clear A170
    obtain rfl := Option.some.inj H
    go_wp2_with (first | ((with_reducible refine gate_load (t := 24) (x := .tmp 4) rfl ?_); refine load_row_g (cs := ?_) ?hw 24 (.tmp 4) ?h2 gb401 ?hx 24 (fr := (0, 0)) (d := ?_) ?hg ?h3 ?h4 ?hi ?_; (case hw => first | (with_reducible rfl) | (go_simp; done) | rfl); (case h2 => rfl); (case hx => first | (with_reducible rfl) | (go_simp; done) | rfl); (case hg => (with_reducible repeat (first | refine blk_drewN ?_ _ | refine blk_drew ?_ | refine blk_alloc ?_ _)); with_reducible exact BK401.out); (case h3 => exact Try.underlying24); (case h4 => rfl); (case hi => kernel_rfl)) | ((with_reducible refine gate_load (t := 30) (x := .tmp 5) rfl ?_); refine load_row_g (cs := ?_) ?hw 30 (.tmp 5) ?h2 gb402 ?hx 30 (fr := (0, 0)) (d := ?_) ?hg ?h3 ?h4 ?hi ?_; (case hw => first | (with_reducible rfl) | (go_simp; done) | rfl); (case h2 => rfl); (case hx => first | (with_reducible rfl) | (go_simp; done) | rfl); (case hg => (with_reducible repeat (first | refine blk_drewN ?_ _ | refine blk_drew ?_ | refine blk_alloc ?_ _)); with_reducible exact BK402.out); (case h3 => exact Try.underlying30); (case h4 => rfl); (case hi => kernel_rfl)) | ((with_reducible refine gate_load (t := 32) (x := .tmp 7) rfl ?_); refine load_row_g (cs := ?_) ?hw 32 (.tmp 7) ?h2 gb403 ?hx 32 (fr := (0, 0)) (d := ?_) ?hg ?h3 ?h4 ?hi ?_; (case hw => first | (with_reducible rfl) | (go_simp; done) | rfl); (case h2 => rfl); (case hx => first | (with_reducible rfl) | (go_simp; done) | rfl); (case hg => (with_reducible repeat (first | refine blk_drewN ?_ _ | refine blk_drew ?_ | refine blk_alloc ?_ _)); with_reducible exact BK403.out); (case h3 => exact Try.underlying32); (case h4 => rfl); (case hi => kernel_rfl)) | ((with_reducible refine gate_callee (f := 7) rfl ?_); refine goesL_ (some 24) rfl rfl Try.func7 (by kernel_rfl) rfl #[] rfl (by (try simp only [List.map_toArray, List.map_cons, List.map_nil]); first | done | rfl) ?_; (with_reducible refine (l24_known.calls kj4  t404 _ A17.out).mono ?_); rintro e w18 ⟨rfl, hb⟩; refine ⟨_, rfl, ?_⟩; have n0_ := Aside0.mk (blk_below (by (with_reducible repeat (first | refine blk_drewN ?_ _ | refine blk_drew ?_ | refine blk_alloc ?_ _)); exact BK401.out) hb); have n1_ := Aside0.mk (blk_below (by (with_reducible repeat (first | refine blk_drewN ?_ _ | refine blk_drew ?_ | refine blk_alloc ?_ _)); exact BK402.out) hb); have n2_ := Aside0.mk (blk_below (by (with_reducible repeat (first | refine blk_drewN ?_ _ | refine blk_drew ?_ | refine blk_alloc ?_ _)); exact BK403.out) hb); have n3_ := Aside0.mk (below_step (by repeat (first | (with_reducible first | exact HB.out | apply below_alloc | apply pw_below_drewN | apply below_drew1 | refine below_set ?_ GE401.out | refine below_set ?_ GE402.out | refine below_set ?_ GE403.out) | exact HB.out)) hb); clear BK401; clear BK402; clear BK403; clear HB; have BK401 := n0_; have BK402 := n1_; have BK403 := n2_; have HB := n3_; clear n0_ n1_ n2_ n3_; (try clear hb)))
    go_ret
    exact ⟨by first | rfl | (simp [*] <;> rfl), by repeat (first | (with_reducible first | exact HB.out | apply below_alloc | apply pw_below_drewN | apply below_drew1 | refine below_set ?_ GE401.out | refine below_set ?_ GE402.out | refine below_set ?_ GE403.out) | exact HB.out)⟩
   ·replace c16 := Bool.eq_false_iff.mpr c16
    subst c16
    have H1 : ((accept_Take.f kj4 a0_0 a0_1 a0_2 a0_3 a0_4 a0_5 a0_6 a0_7 a0_8 a0_9 l0_10 a1_0 a1_1 a1_2 a1_3 a1_4 a1_5 a1_6 a1_7 a1_8 a1_9 a1_10 a1_11 a1_12 a1_13 a1_14 l1_15 l1_16 l1_17 a1_18 a1_19 a1_20 a1_21 a1_22 a1_23 a2 a3_0 a3_1 a3_2 a3_3 a3_4 a3_5).bind fun bt405 => (if bt405.2.2.2.2.2.2 = 0 then ((r05_Diff.f a1_0 a1_1).bind fun t414 => ((r04_Middle.f kj4 a0_0 a0_1 a0_2 a0_3 a0_4 a0_5 a0_6 a0_7 a0_8 a0_9 l0_10 bt405.2.2.2.1).bind fun t415 => (if a1_8 < 2 then (l24_AcceptOwners.j1 kj4 a2 bt405.1 bt405.2.1 true a0_0 a0_1 a0_2 a0_3 a0_4 a0_5 a0_6 a0_7 a0_8 a0_9 l0_10 a1_0 a1_1 a1_2 a1_3 a1_4 a1_5 a1_6 a1_7 a1_8 a1_9 a1_10 a1_11 a1_12 a1_13 a1_14 l1_15 l1_16 l1_17 a1_18 a1_19 a1_20 a1_21 a1_22 a1_23 a3_0 a3_1 a3_2 a3_3 a3_4 a3_5 bt405.2.2.1 bt405.2.2.2.1 bt405.2.2.2.2.1 bt405.2.2.2.2.2.1) else (if bt405.2.2.1 = a2 then ((r21_Owner.f kj4 a0_0 a0_1 a0_2 a0_3 a0_4 a0_5 a0_6 a0_7 a0_8 a0_9 l0_10 bt405.2.2.2.1).bind fun t416 => (if t416 = a2 then (if bt405.2.2.2.1 = (wrap64 (a3_3 - 1)) then (if bt405.2.2.2.2.1 = a1_7 then (if bt405.2.2.2.2.2.1.toList = a3_5.toList then ((r04_Guard.f kj4 a0_0 a0_1 a0_2 a0_3 a0_4 a0_5 a0_6 a0_7 a0_8 a0_9 l0_10).bind fun t417 => (if (wrap64 ((wrap64 (t414 - t415)) - (wrap64 (a0_2 * a0_4)))) > t417 then (l24_AcceptOwners.j1 kj4 a2 bt405.1 bt405.2.1 true a0_0 a0_1 a0_2 a0_3 a0_4 a0_5 a0_6 a0_7 a0_8 a0_9 l0_10 a1_0 a1_1 a1_2 a1_3 a1_4 a1_5 a1_6 a1_7 a1_8 a1_9 a1_10 a1_11 a1_12 a1_13 a1_14 l1_15 l1_16 l1_17 a1_18 a1_19 a1_20 a1_21 a1_22 a1_23 a3_0 a3_1 a3_2 a3_3 a3_4 a3_5 bt405.2.2.1 bt405.2.2.2.1 bt405.2.2.2.2.1 bt405.2.2.2.2.2.1) else ((r04_Guard.f kj4 a0_0 a0_1 a0_2 a0_3 a0_4 a0_5 a0_6 a0_7 a0_8 a0_9 l0_10).bind fun t418 => (l24_AcceptOwners.j1 kj4 a2 bt405.1 bt405.2.1 (decide ((wrap64 (-(wrap64 ((wrap64 (t414 - t415)) - (wrap64 (a0_2 * a0_4)))))) > t418)) a0_0 a0_1 a0_2 a0_3 a0_4 a0_5 a0_6 a0_7 a0_8 a0_9 l0_10 a1_0 a1_1 a1_2 a1_3 a1_4 a1_5 a1_6 a1_7 a1_8 a1_9 a1_10 a1_11 a1_12 a1_13 a1_14 l1_15 l1_16 l1_17 a1_18 a1_19 a1_20 a1_21 a1_22 a1_23 a3_0 a3_1 a3_2 a3_3 a3_4 a3_5 bt405.2.2.1 bt405.2.2.2.1 bt405.2.2.2.2.1 bt405.2.2.2.2.2.1)))) else (l24_AcceptOwners.j1 kj4 a2 bt405.1 bt405.2.1 true a0_0 a0_1 a0_2 a0_3 a0_4 a0_5 a0_6 a0_7 a0_8 a0_9 l0_10 a1_0 a1_1 a1_2 a1_3 a1_4 a1_5 a1_6 a1_7 a1_8 a1_9 a1_10 a1_11 a1_12 a1_13 a1_14 l1_15 l1_16 l1_17 a1_18 a1_19 a1_20 a1_21 a1_22 a1_23 a3_0 a3_1 a3_2 a3_3 a3_4 a3_5 bt405.2.2.1 bt405.2.2.2.1 bt405.2.2.2.2.1 bt405.2.2.2.2.2.1)) else (l24_AcceptOwners.j1 kj4 a2 bt405.1 bt405.2.1 true a0_0 a0_1 a0_2 a0_3 a0_4 a0_5 a0_6 a0_7 a0_8 a0_9 l0_10 a1_0 a1_1 a1_2 a1_3 a1_4 a1_5 a1_6 a1_7 a1_8 a1_9 a1_10 a1_11 a1_12 a1_13 a1_14 l1_15 l1_16 l1_17 a1_18 a1_19 a1_20 a1_21 a1_22 a1_23 a3_0 a3_1 a3_2 a3_3 a3_4 a3_5 bt405.2.2.1 bt405.2.2.2.1 bt405.2.2.2.2.1 bt405.2.2.2.2.2.1)) else (l24_AcceptOwners.j1 kj4 a2 bt405.1 bt405.2.1 true a0_0 a0_1 a0_2 a0_3 a0_4 a0_5 a0_6 a0_7 a0_8 a0_9 l0_10 a1_0 a1_1 a1_2 a1_3 a1_4 a1_5 a1_6 a1_7 a1_8 a1_9 a1_10 a1_11 a1_12 a1_13 a1_14 l1_15 l1_16 l1_17 a1_18 a1_19 a1_20 a1_21 a1_22 a1_23 a3_0 a3_1 a3_2 a3_3 a3_4 a3_5 bt405.2.2.1 bt405.2.2.2.1 bt405.2.2.2.2.1 bt405.2.2.2.2.2.1)) else (l24_AcceptOwners.j1 kj4 a2 bt405.1 bt405.2.1 true a0_0 a0_1 a0_2 a0_3 a0_4 a0_5 a0_6 a0_7 a0_8 a0_9 l0_10 a1_0 a1_1 a1_2 a1_3 a1_4 a1_5 a1_6 a1_7 a1_8 a1_9 a1_10 a1_11 a1_12 a1_13 a1_14 l1_15 l1_16 l1_17 a1_18 a1_19 a1_20 a1_21 a1_22 a1_23 a3_0 a3_1 a3_2 a3_3 a3_4 a3_5 bt405.2.2.1 bt405.2.2.2.1 bt405.2.2.2.2.1 bt405.2.2.2.2.2.1))) else (l24_AcceptOwners.j1 kj4 a2 bt405.1 bt405.2.1 true a0_0 a0_1 a0_2 a0_3 a0_4 a0_5 a0_6 a0_7 a0_8 a0_9 l0_10 a1_0 a1_1 a1_2 a1_3 a1_4 a1_5 a1_6 a1_7 a1_8 a1_9 a1_10 a1_11 a1_12 a1_13 a1_14 l1_15 l1_16 l1_17 a1_18 a1_19 a1_20 a1_21 a1_22 a1_23 a3_0 a3_1 a3_2 a3_3 a3_4 a3_5 bt405.2.2.1 bt405.2.2.2.1 bt405.2.2.2.2.1 bt405.2.2.2.2.2.1))))) else (if bt405.1.toList = ([] : List UInt8) then (if bt405.2.1.toList = ([] : List UInt8) then (if (bt405.2.2.1 == 0 && (bt405.2.2.2.1 == 0 && (bt405.2.2.2.2.1 == 0 && (bt405.2.2.2.2.2.1.toList == ([] : List UInt8))))) = true then ((l24_known.f kj4).bind fun t413 => (some t413)) else (none)) else (none)) else (none)))) = some r := by rw [if_neg (show ¬ (false = true) by decide)] at H; exact H
    clear H
    have H := H1
    clear H1
    replace H := Option.bind_eq_some_iff.mp H
    obtain ⟨⟨t405, t406, t407, t408, t409, t410, t411⟩, A190, H⟩ := H
    replace H : (if t411 = 0 then ((r05_Diff.f a1_0 a1_1).bind fun t414 => ((r04_Middle.f kj4 a0_0 a0_1 a0_2 a0_3 a0_4 a0_5 a0_6 a0_7 a0_8 a0_9 l0_10 t408).bind fun t415 => (if a1_8 < 2 then (l24_AcceptOwners.j1 kj4 a2 t405 t406 true a0_0 a0_1 a0_2 a0_3 a0_4 a0_5 a0_6 a0_7 a0_8 a0_9 l0_10 a1_0 a1_1 a1_2 a1_3 a1_4 a1_5 a1_6 a1_7 a1_8 a1_9 a1_10 a1_11 a1_12 a1_13 a1_14 l1_15 l1_16 l1_17 a1_18 a1_19 a1_20 a1_21 a1_22 a1_23 a3_0 a3_1 a3_2 a3_3 a3_4 a3_5 t407 t408 t409 t410) else (if t407 = a2 then ((r21_Owner.f kj4 a0_0 a0_1 a0_2 a0_3 a0_4 a0_5 a0_6 a0_7 a0_8 a0_9 l0_10 t408).bind fun t416 => (if t416 = a2 then (if t408 = (wrap64 (a3_3 - 1)) then (if t409 = a1_7 then (if t410.toList = a3_5.toList then ((r04_Guard.f kj4 a0_0 a0_1 a0_2 a0_3 a0_4 a0_5 a0_6 a0_7 a0_8 a0_9 l0_10).bind fun t417 => (if (wrap64 ((wrap64 (t414 - t415)) - (wrap64 (a0_2 * a0_4)))) > t417 then (l24_AcceptOwners.j1 kj4 a2 t405 t406 true a0_0 a0_1 a0_2 a0_3 a0_4 a0_5 a0_6 a0_7 a0_8 a0_9 l0_10 a1_0 a1_1 a1_2 a1_3 a1_4 a1_5 a1_6 a1_7 a1_8 a1_9 a1_10 a1_11 a1_12 a1_13 a1_14 l1_15 l1_16 l1_17 a1_18 a1_19 a1_20 a1_21 a1_22 a1_23 a3_0 a3_1 a3_2 a3_3 a3_4 a3_5 t407 t408 t409 t410) else ((r04_Guard.f kj4 a0_0 a0_1 a0_2 a0_3 a0_4 a0_5 a0_6 a0_7 a0_8 a0_9 l0_10).bind fun t418 => (l24_AcceptOwners.j1 kj4 a2 t405 t406 (decide ((wrap64 (-(wrap64 ((wrap64 (t414 - t415)) - (wrap64 (a0_2 * a0_4)))))) > t418)) a0_0 a0_1 a0_2 a0_3 a0_4 a0_5 a0_6 a0_7 a0_8 a0_9 l0_10 a1_0 a1_1 a1_2 a1_3 a1_4 a1_5 a1_6 a1_7 a1_8 a1_9 a1_10 a1_11 a1_12 a1_13 a1_14 l1_15 l1_16 l1_17 a1_18 a1_19 a1_20 a1_21 a1_22 a1_23 a3_0 a3_1 a3_2 a3_3 a3_4 a3_5 t407 t408 t409 t410)))) else (l24_AcceptOwners.j1 kj4 a2 t405 t406 true a0_0 a0_1 a0_2 a0_3 a0_4 a0_5 a0_6 a0_7 a0_8 a0_9 l0_10 a1_0 a1_1 a1_2 a1_3 a1_4 a1_5 a1_6 a1_7 a1_8 a1_9 a1_10 a1_11 a1_12 a1_13 a1_14 l1_15 l1_16 l1_17 a1_18 a1_19 a1_20 a1_21 a1_22 a1_23 a3_0 a3_1 a3_2 a3_3 a3_4 a3_5 t407 t408 t409 t410)) else (l24_AcceptOwners.j1 kj4 a2 t405 t406 true a0_0 a0_1 a0_2 a0_3 a0_4 a0_5 a0_6 a0_7 a0_8 a0_9 l0_10 a1_0 a1_1 a1_2 a1_3 a1_4 a1_5 a1_6 a1_7 a1_8 a1_9 a1_10 a1_11 a1_12 a1_13 a1_14 l1_15 l1_16 l1_17 a1_18 a1_19 a1_20 a1_21 a1_22 a1_23 a3_0 a3_1 a3_2 a3_3 a3_4 a3_5 t407 t408 t409 t410)) else (l24_AcceptOwners.j1 kj4 a2 t405 t406 true a0_0 a0_1 a0_2 a0_3 a0_4 a0_5 a0_6 a0_7 a0_8 a0_9 l0_10 a1_0 a1_1 a1_2 a1_3 a1_4 a1_5 a1_6 a1_7 a1_8 a1_9 a1_10 a1_11 a1_12 a1_13 a1_14 l1_15 l1_16 l1_17 a1_18 a1_19 a1_20 a1_21 a1_22 a1_23 a3_0 a3_1 a3_2 a3_3 a3_4 a3_5 t407 t408 t409 t410)) else (l24_AcceptOwners.j1 kj4 a2 t405 t406 true a0_0 a0_1 a0_2 a0_3 a0_4 a0_5 a0_6 a0_7 a0_8 a0_9 l0_10 a1_0 a1_1 a1_2 a1_3 a1_4 a1_5 a1_6 a1_7 a1_8 a1_9 a1_10 a1_11 a1_12 a1_13 a1_14 l1_15 l1_16 l1_17 a1_18 a1_19 a1_20 a1_21 a1_22 a1_23 a3_0 a3_1 a3_2 a3_3 a3_4 a3_5 t407 t408 t409 t410))) else (l24_AcceptOwners.j1 kj4 a2 t405 t406 true a0_0 a0_1 a0_2 a0_3 a0_4 a0_5 a0_6 a0_7 a0_8 a0_9 l0_10 a1_0 a1_1 a1_2 a1_3 a1_4 a1_5 a1_6 a1_7 a1_8 a1_9 a1_10 a1_11 a1_12 a1_13 a1_14 l1_15 l1_16 l1_17 a1_18 a1_19 a1_20 a1_21 a1_22 a1_23 a3_0 a3_1 a3_2 a3_3 a3_4 a3_5 t407 t408 t409 t410))))) else (if t405.toList = ([] : List UInt8) then (if t406.toList = ([] : List UInt8) then (if (t407 == 0 && (t408 == 0 && (t409 == 0 && (t410.toList == ([] : List UInt8))))) = true then ((l24_known.f kj4).bind fun t413 => (some t413)) else (none)) else (none)) else (none))) = some r := H
    have A19 := Aside0.mk A190
    clear A190
    by_cases c20 : t411 = 0
    ·rw [if_pos c20] at H
     have c20b0 : (t411 == 0) = true := beq_iff_eq.mpr c20
     have c20b1 : (t411 != 0) = false := bne_eq_false_iff_eq.mpr c20
     clear c20
     replace H := Option.bind_eq_some_iff.mp H
     obtain ⟨t414, A210, H⟩ := H
     replace H : ((r04_Middle.f kj4 a0_0 a0_1 a0_2 a0_3 a0_4 a0_5 a0_6 a0_7 a0_8 a0_9 l0_10 t408).bind fun t415 => (if a1_8 < 2 then (l24_AcceptOwners.j1 kj4 a2 t405 t406 true a0_0 a0_1 a0_2 a0_3 a0_4 a0_5 a0_6 a0_7 a0_8 a0_9 l0_10 a1_0 a1_1 a1_2 a1_3 a1_4 a1_5 a1_6 a1_7 a1_8 a1_9 a1_10 a1_11 a1_12 a1_13 a1_14 l1_15 l1_16 l1_17 a1_18 a1_19 a1_20 a1_21 a1_22 a1_23 a3_0 a3_1 a3_2 a3_3 a3_4 a3_5 t407 t408 t409 t410) else (if t407 = a2 then ((r21_Owner.f kj4 a0_0 a0_1 a0_2 a0_3 a0_4 a0_5 a0_6 a0_7 a0_8 a0_9 l0_10 t408).bind fun t416 => (if t416 = a2 then (if t408 = (wrap64 (a3_3 - 1)) then (if t409 = a1_7 then (if t410.toList = a3_5.toList then ((r04_Guard.f kj4 a0_0 a0_1 a0_2 a0_3 a0_4 a0_5 a0_6 a0_7 a0_8 a0_9 l0_10).bind fun t417 => (if (wrap64 ((wrap64 (t414 - t415)) - (wrap64 (a0_2 * a0_4)))) > t417 then (l24_AcceptOwners.j1 kj4 a2 t405 t406 true a0_0 a0_1 a0_2 a0_3 a0_4 a0_5 a0_6 a0_7 a0_8 a0_9 l0_10 a1_0 a1_1 a1_2 a1_3 a1_4 a1_5 a1_6 a1_7 a1_8 a1_9 a1_10 a1_11 a1_12 a1_13 a1_14 l1_15 l1_16 l1_17 a1_18 a1_19 a1_20 a1_21 a1_22 a1_23 a3_0 a3_1 a3_2 a3_3 a3_4 a3_5 t407 t408 t409 t410) else ((r04_Guard.f kj4 a0_0 a0_1 a0_2 a0_3 a0_4 a0_5 a0_6 a0_7 a0_8 a0_9 l0_10).bind fun t418 => (l24_AcceptOwners.j1 kj4 a2 t405 t406 (decide ((wrap64 (-(wrap64 ((wrap64 (t414 - t415)) - (wrap64 (a0_2 * a0_4)))))) > t418)) a0_0 a0_1 a0_2 a0_3 a0_4 a0_5 a0_6 a0_7 a0_8 a0_9 l0_10 a1_0 a1_1 a1_2 a1_3 a1_4 a1_5 a1_6 a1_7 a1_8 a1_9 a1_10 a1_11 a1_12 a1_13 a1_14 l1_15 l1_16 l1_17 a1_18 a1_19 a1_20 a1_21 a1_22 a1_23 a3_0 a3_1 a3_2 a3_3 a3_4 a3_5 t407 t408 t409 t410)))) else (l24_AcceptOwners.j1 kj4 a2 t405 t406 true a0_0 a0_1 a0_2 a0_3 a0_4 a0_5 a0_6 a0_7 a0_8 a0_9 l0_10 a1_0 a1_1 a1_2 a1_3 a1_4 a1_5 a1_6 a1_7 a1_8 a1_9 a1_10 a1_11 a1_12 a1_13 a1_14 l1_15 l1_16 l1_17 a1_18 a1_19 a1_20 a1_21 a1_22 a1_23 a3_0 a3_1 a3_2 a3_3 a3_4 a3_5 t407 t408 t409 t410)) else (l24_AcceptOwners.j1 kj4 a2 t405 t406 true a0_0 a0_1 a0_2 a0_3 a0_4 a0_5 a0_6 a0_7 a0_8 a0_9 l0_10 a1_0 a1_1 a1_2 a1_3 a1_4 a1_5 a1_6 a1_7 a1_8 a1_9 a1_10 a1_11 a1_12 a1_13 a1_14 l1_15 l1_16 l1_17 a1_18 a1_19 a1_20 a1_21 a1_22 a1_23 a3_0 a3_1 a3_2 a3_3 a3_4 a3_5 t407 t408 t409 t410)) else (l24_AcceptOwners.j1 kj4 a2 t405 t406 true a0_0 a0_1 a0_2 a0_3 a0_4 a0_5 a0_6 a0_7 a0_8 a0_9 l0_10 a1_0 a1_1 a1_2 a1_3 a1_4 a1_5 a1_6 a1_7 a1_8 a1_9 a1_10 a1_11 a1_12 a1_13 a1_14 l1_15 l1_16 l1_17 a1_18 a1_19 a1_20 a1_21 a1_22 a1_23 a3_0 a3_1 a3_2 a3_3 a3_4 a3_5 t407 t408 t409 t410)) else (l24_AcceptOwners.j1 kj4 a2 t405 t406 true a0_0 a0_1 a0_2 a0_3 a0_4 a0_5 a0_6 a0_7 a0_8 a0_9 l0_10 a1_0 a1_1 a1_2 a1_3 a1_4 a1_5 a1_6 a1_7 a1_8 a1_9 a1_10 a1_11 a1_12 a1_13 a1_14 l1_15 l1_16 l1_17 a1_18 a1_19 a1_20 a1_21 a1_22 a1_23 a3_0 a3_1 a3_2 a3_3 a3_4 a3_5 t407 t408 t409 t410))) else (l24_AcceptOwners.j1 kj4 a2 t405 t406 true a0_0 a0_1 a0_2 a0_3 a0_4 a0_5 a0_6 a0_7 a0_8 a0_9 l0_10 a1_0 a1_1 a1_2 a1_3 a1_4 a1_5 a1_6 a1_7 a1_8 a1_9 a1_10 a1_11 a1_12 a1_13 a1_14 l1_15 l1_16 l1_17 a1_18 a1_19 a1_20 a1_21 a1_22 a1_23 a3_0 a3_1 a3_2 a3_3 a3_4 a3_5 t407 t408 t409 t410)))) = some r := H
     have A21 := Aside0.mk A210
     clear A210
     replace H := Option.bind_eq_some_iff.mp H
     obtain ⟨t415, A220, H⟩ := H
     replace H : (if a1_8 < 2 then (l24_AcceptOwners.j1 kj4 a2 t405 t406 true a0_0 a0_1 a0_2 a0_3 a0_4 a0_5 a0_6 a0_7 a0_8 a0_9 l0_10 a1_0 a1_1 a1_2 a1_3 a1_4 a1_5 a1_6 a1_7 a1_8 a1_9 a1_10 a1_11 a1_12 a1_13 a1_14 l1_15 l1_16 l1_17 a1_18 a1_19 a1_20 a1_21 a1_22 a1_23 a3_0 a3_1 a3_2 a3_3 a3_4 a3_5 t407 t408 t409 t410) else (if t407 = a2 then ((r21_Owner.f kj4 a0_0 a0_1 a0_2 a0_3 a0_4 a0_5 a0_6 a0_7 a0_8 a0_9 l0_10 t408).bind fun t416 => (if t416 = a2 then (if t408 = (wrap64 (a3_3 - 1)) then (if t409 = a1_7 then (if t410.toList = a3_5.toList then ((r04_Guard.f kj4 a0_0 a0_1 a0_2 a0_3 a0_4 a0_5 a0_6 a0_7 a0_8 a0_9 l0_10).bind fun t417 => (if (wrap64 ((wrap64 (t414 - t415)) - (wrap64 (a0_2 * a0_4)))) > t417 then (l24_AcceptOwners.j1 kj4 a2 t405 t406 true a0_0 a0_1 a0_2 a0_3 a0_4 a0_5 a0_6 a0_7 a0_8 a0_9 l0_10 a1_0 a1_1 a1_2 a1_3 a1_4 a1_5 a1_6 a1_7 a1_8 a1_9 a1_10 a1_11 a1_12 a1_13 a1_14 l1_15 l1_16 l1_17 a1_18 a1_19 a1_20 a1_21 a1_22 a1_23 a3_0 a3_1 a3_2 a3_3 a3_4 a3_5 t407 t408 t409 t410) else ((r04_Guard.f kj4 a0_0 a0_1 a0_2 a0_3 a0_4 a0_5 a0_6 a0_7 a0_8 a0_9 l0_10).bind fun t418 => (l24_AcceptOwners.j1 kj4 a2 t405 t406 (decide ((wrap64 (-(wrap64 ((wrap64 (t414 - t415)) - (wrap64 (a0_2 * a0_4)))))) > t418)) a0_0 a0_1 a0_2 a0_3 a0_4 a0_5 a0_6 a0_7 a0_8 a0_9 l0_10 a1_0 a1_1 a1_2 a1_3 a1_4 a1_5 a1_6 a1_7 a1_8 a1_9 a1_10 a1_11 a1_12 a1_13 a1_14 l1_15 l1_16 l1_17 a1_18 a1_19 a1_20 a1_21 a1_22 a1_23 a3_0 a3_1 a3_2 a3_3 a3_4 a3_5 t407 t408 t409 t410)))) else (l24_AcceptOwners.j1 kj4 a2 t405 t406 true a0_0 a0_1 a0_2 a0_3 a0_4 a0_5 a0_6 a0_7 a0_8 a0_9 l0_10 a1_0 a1_1 a1_2 a1_3 a1_4 a1_5 a1_6 a1_7 a1_8 a1_9 a1_10 a1_11 a1_12 a1_13 a1_14 l1_15 l1_16 l1_17 a1_18 a1_19 a1_20 a1_21 a1_22 a1_23 a3_0 a3_1 a3_2 a3_3 a3_4 a3_5 t407 t408 t409 t410)) else (l24_AcceptOwners.j1 kj4 a2 t405 t406 true a0_0 a0_1 a0_2 a0_3 a0_4 a0_5 a0_6 a0_7 a0_8 a0_9 l0_10 a1_0 a1_1 a1_2 a1_3 a1_4 a1_5 a1_6 a1_7 a1_8 a1_9 a1_10 a1_11 a1_12 a1_13 a1_14 l1_15 l1_16 l1_17 a1_18 a1_19 a1_20 a1_21 a1_22 a1_23 a3_0 a3_1 a3_2 a3_3 a3_4 a3_5 t407 t408 t409 t410)) else (l24_AcceptOwners.j1 kj4 a2 t405 t406 true a0_0 a0_1 a0_2 a0_3 a0_4 a0_5 a0_6 a0_7 a0_8 a0_9 l0_10 a1_0 a1_1 a1_2 a1_3 a1_4 a1_5 a1_6 a1_7 a1_8 a1_9 a1_10 a1_11 a1_12 a1_13 a1_14 l1_15 l1_16 l1_17 a1_18 a1_19 a1_20 a1_21 a1_22 a1_23 a3_0 a3_1 a3_2 a3_3 a3_4 a3_5 t407 t408 t409 t410)) else (l24_AcceptOwners.j1 kj4 a2 t405 t406 true a0_0 a0_1 a0_2 a0_3 a0_4 a0_5 a0_6 a0_7 a0_8 a0_9 l0_10 a1_0 a1_1 a1_2 a1_3 a1_4 a1_5 a1_6 a1_7 a1_8 a1_9 a1_10 a1_11 a1_12 a1_13 a1_14 l1_15 l1_16 l1_17 a1_18 a1_19 a1_20 a1_21 a1_22 a1_23 a3_0 a3_1 a3_2 a3_3 a3_4 a3_5 t407 t408 t409 t410))) else (l24_AcceptOwners.j1 kj4 a2 t405 t406 true a0_0 a0_1 a0_2 a0_3 a0_4 a0_5 a0_6 a0_7 a0_8 a0_9 l0_10 a1_0 a1_1 a1_2 a1_3 a1_4 a1_5 a1_6 a1_7 a1_8 a1_9 a1_10 a1_11 a1_12 a1_13 a1_14 l1_15 l1_16 l1_17 a1_18 a1_19 a1_20 a1_21 a1_22 a1_23 a3_0 a3_1 a3_2 a3_3 a3_4 a3_5 t407 t408 t409 t410))) = some r := H
     have A22 := Aside0.mk A220
     clear A220
     have HC23 := Aside0.mk H
     clear H
     have hnb24 := NB401_402.out
     have hnc24 := NB402_401.out
     have hnb25 := NB401_403.out
     have hnc25 := NB403_401.out
     obtain ⟨hcz26_0, hcz26_1, hcz26_2, hcz26_3, hcz26_4, hcz26_5, hcz26_6, hcz26_7, hcz26_8, hcz26_9, hcz26_10⟩ := cells_11 BK401.out
     obtain ⟨hfz26_0, hfz26_1, hfz26_2, hfz26_3, hfz26_4, hfz26_5, hfz26_6, hfz26_7, hfz26_8, hfz26_9, hfz26_10⟩ := frozen_11 BK401.out
     have hnb27 := NB402_403.out
     have hnc27 := NB403_402.out
     obtain ⟨hcz28_0, hcz28_1, hcz28_2, hcz28_3, hcz28_4, hcz28_5, hcz28_6, hcz28_7, hcz28_8, hcz28_9, hcz28_10, hcz28_11, hcz28_12, hcz28_13, hcz28_14, hcz28_15, hcz28_16, hcz28_17, hcz28_18, hcz28_19, hcz28_20, hcz28_21, hcz28_22, hcz28_23⟩ := cells_24 BK402.out
     obtain ⟨hfz28_0, hfz28_1, hfz28_2, hfz28_3, hfz28_4, hfz28_5, hfz28_6, hfz28_7, hfz28_8, hfz28_9, hfz28_10, hfz28_11, hfz28_12, hfz28_13, hfz28_14, hfz28_15, hfz28_16, hfz28_17, hfz28_18, hfz28_19, hfz28_20, hfz28_21, hfz28_22, hfz28_23⟩ := frozen_24 BK402.out
     obtain ⟨hcz29_0, hcz29_1, hcz29_2, hcz29_3, hcz29_4, hcz29_5⟩ := cells_6 BK403.out
     obtain ⟨hfz29_0, hfz29_1, hfz29_2, hfz29_3, hfz29_4, hfz29_5⟩ := frozen_6 BK403.out
     try go_wp2_with (first | ((with_reducible refine gate_load (t := 24) (x := .tmp 4) rfl ?_); refine load_row_g (cs := ?_) ?hw 24 (.tmp 4) ?h2 gb401 ?hx 24 (fr := (0, 0)) (d := ?_) ?hg ?h3 ?h4 ?hi ?_; (case hw => first | (with_reducible rfl) | (go_simp; done) | rfl); (case h2 => rfl); (case hx => first | (with_reducible rfl) | (go_simp; done) | rfl); (case hg => (with_reducible repeat (first | refine blk_drewN ?_ _ | refine blk_drew ?_ | refine blk_alloc ?_ _)); with_reducible exact BK401.out); (case h3 => exact Try.underlying24); (case h4 => rfl); (case hi => kernel_rfl)) | ((with_reducible refine gate_load (t := 30) (x := .tmp 5) rfl ?_); refine load_row_g (cs := ?_) ?hw 30 (.tmp 5) ?h2 gb402 ?hx 30 (fr := (0, 0)) (d := ?_) ?hg ?h3 ?h4 ?hi ?_; (case hw => first | (with_reducible rfl) | (go_simp; done) | rfl); (case h2 => rfl); (case hx => first | (with_reducible rfl) | (go_simp; done) | rfl); (case hg => (with_reducible repeat (first | refine blk_drewN ?_ _ | refine blk_drew ?_ | refine blk_alloc ?_ _)); with_reducible exact BK402.out); (case h3 => exact Try.underlying30); (case h4 => rfl); (case hi => kernel_rfl)) | ((with_reducible refine gate_load (t := 32) (x := .tmp 7) rfl ?_); refine load_row_g (cs := ?_) ?hw 32 (.tmp 7) ?h2 gb403 ?hx 32 (fr := (0, 0)) (d := ?_) ?hg ?h3 ?h4 ?hi ?_; (case hw => first | (with_reducible rfl) | (go_simp; done) | rfl); (case h2 => rfl); (case hx => first | (with_reducible rfl) | (go_simp; done) | rfl); (case hg => (with_reducible repeat (first | refine blk_drewN ?_ _ | refine blk_drew ?_ | refine blk_alloc ?_ _)); with_reducible exact BK403.out); (case h3 => exact Try.underlying32); (case h4 => rfl); (case hi => kernel_rfl)) | ((with_reducible refine gate_callee (f := 8) rfl ?_); refine goesL_ (some 30) rfl rfl Try.func8 (by kernel_rfl) rfl #[.agg #[.int .i64 a0_0, .int .i64 a0_1, .int .i64 a0_2, .int .i64 a0_3, .int .i64 a0_4, .int .i64 a0_5, .int .i64 a0_6, .int .i64 a0_7, .int .i64 a0_8, .int .i64 a0_9, .slice A0_10 l0_10.length c0_10], .agg #[.int .i64 a1_0, .int .i64 a1_1, .int .i64 a1_2, .string a1_3, .int .i64 a1_4, .string a1_5, .string a1_6, .int .i64 a1_7, .int .i64 a1_8, .string a1_9, .string a1_10, .string a1_11, .string a1_12, .string a1_13, .string a1_14, .slice A1_15 l1_15.length c1_15, .slice A1_16 l1_16.length c1_16, .slice A1_17 l1_17.length c1_17, .int .i64 a1_18, .int .i64 a1_19, .int .i64 a1_20, .int .i64 a1_21, .int .i64 a1_22, .int .i64 a1_23], .int .i64 a2, .agg #[.string a3_0, .int .i64 a3_1, .string a3_2, .int .i64 a3_3, .int .i64 a3_4, .string a3_5]] rfl (by (try simp only [List.map_toArray, List.map_cons, List.map_nil]); first | done | rfl) ?_; (with_reducible refine (accept_Take.calls kj4 a0_0 a0_1 a0_2 a0_3 a0_4 a0_5 a0_6 a0_7 a0_8 a0_9 _ _ l0_10 a1_0 a1_1 a1_2 a1_3 a1_4 a1_5 a1_6 a1_7 a1_8 a1_9 a1_10 a1_11 a1_12 a1_13 a1_14 _ _ l1_15 _ _ l1_16 _ _ l1_17 a1_18 a1_19 a1_20 a1_21 a1_22 a1_23 a2 a3_0 a3_1 a3_2 a3_3 a3_4 a3_5 t405 t406 t407 t408 t409 t410 t411 _ ?side1 ?side2 ?side3 ?side4 ?side5 ?side6 ?side7 ?side8 A19.out).mono ?_); (case side1 => repeat (first | exact (Kd.C_below HR0_10.out HB.out) | (with_reducible refine Kd.C_alloc ?_ _) | (with_reducible refine Kd.C_drewN ?_ _) | (with_reducible refine Kd.C_drew ?_))); (case side2 => exact HC0_10.out); (case side3 => repeat (first | exact (Kd.C_below HR1_15.out HB.out) | (with_reducible refine Kd.C_alloc ?_ _) | (with_reducible refine Kd.C_drewN ?_ _) | (with_reducible refine Kd.C_drew ?_))); (case side4 => exact HC1_15.out); (case side5 => repeat (first | exact (Kd.C_below HR1_16.out HB.out) | (with_reducible refine Kd.C_alloc ?_ _) | (with_reducible refine Kd.C_drewN ?_ _) | (with_reducible refine Kd.C_drew ?_))); (case side6 => exact HC1_16.out); (case side7 => repeat (first | exact (Kd.C_below HR1_17.out HB.out) | (with_reducible refine Kd.C_alloc ?_ _) | (with_reducible refine Kd.C_drewN ?_ _) | (with_reducible refine Kd.C_drew ?_))); (case side8 => exact HC1_17.out); rintro e w30 ⟨rfl, hb⟩; refine ⟨_, rfl, ?_⟩; have n0_ := Aside0.mk (blk_below (by (with_reducible repeat (first | refine blk_drewN ?_ _ | refine blk_drew ?_ | refine blk_alloc ?_ _)); exact BK401.out) hb); have n1_ := Aside0.mk (blk_below (by (with_reducible repeat (first | refine blk_drewN ?_ _ | refine blk_drew ?_ | refine blk_alloc ?_ _)); exact BK402.out) hb); have n2_ := Aside0.mk (blk_below (by (with_reducible repeat (first | refine blk_drewN ?_ _ | refine blk_drew ?_ | refine blk_alloc ?_ _)); exact BK403.out) hb); have n3_ := Aside0.mk (below_step (by repeat (first | (with_reducible first | exact HB.out | apply below_alloc | apply pw_below_drewN | apply below_drew1 | refine below_set ?_ GE401.out | refine below_set ?_ GE402.out | refine below_set ?_ GE403.out) | exact HB.out)) hb); clear BK401; clear BK402; clear BK403; clear HB; have BK401 := n0_; have BK402 := n1_; have BK403 := n2_; have HB := n3_; clear n0_ n1_ n2_ n3_; (try clear hb)) | ((with_reducible refine gate_dst (N := 11) rfl ?_); (try (refine gate_guard (by rfl) ?_; dsimp only)); refine box_event ?hg (N := 11) ?hd (cs := #[.int .i64 0, .int .i64 0, .int .i64 0, .string (⟨#[]⟩ : ByteArray)]) (t := 35) ?hr ?_; (case hd => rfl); (case hg => rfl); (case hr => first | (go_simp; done) | (go_simp; rfl)); intro gb412 hg w31 hbox hb; have n0_ := Aside0.mk (blk_below (by (with_reducible repeat (first | refine blk_drewN ?_ _ | refine blk_drew ?_ | refine blk_alloc ?_ _)); exact BK401.out) hb); have n1_ := Aside0.mk (blk_below (by (with_reducible repeat (first | refine blk_drewN ?_ _ | refine blk_drew ?_ | refine blk_alloc ?_ _)); exact BK402.out) hb); have n2_ := Aside0.mk (blk_below (by (with_reducible repeat (first | refine blk_drewN ?_ _ | refine blk_drew ?_ | refine blk_alloc ?_ _)); exact BK403.out) hb); have n3_ := Aside0.mk (below_step (by repeat (first | (with_reducible first | exact HB.out | apply below_alloc | apply pw_below_drewN | apply below_drew1 | refine below_set ?_ GE401.out | refine below_set ?_ GE402.out | refine below_set ?_ GE403.out) | exact HB.out)) hb); have n4_ := Aside0.mk (hbox); have n5_ := Aside0.mk ((by rw [hg]; exact (below_size (by repeat (first | (with_reducible first | exact HB.out | apply below_alloc | apply pw_below_drewN | apply below_drew1 | refine below_set ?_ GE401.out | refine below_set ?_ GE402.out | refine below_set ?_ GE403.out) | exact HB.out))) : w.heap.size ≤ gb412)); have n6_ := Aside0.mk ((by rw [hg]; exact (below_size (by repeat (first | (with_reducible first | exact HB.out | apply below_alloc | apply pw_below_drewN | apply below_drew1 | refine below_set ?_ GE401.out | refine below_set ?_ GE402.out | refine below_set ?_ GE403.out) | exact HB.out))) : w.heap.size ≤ gb412)); have n7_ := Aside0.mk ((by rw [hg]; exact Nat.ne_of_lt (blk_lt (by (with_reducible repeat (first | refine blk_drewN ?_ _ | refine blk_drew ?_ | refine blk_alloc ?_ _)); exact BK401.out)) : gb401 ≠ gb412)); have n8_ := Aside0.mk ((by rw [hg]; exact Nat.ne_of_gt (blk_lt (by (with_reducible repeat (first | refine blk_drewN ?_ _ | refine blk_drew ?_ | refine blk_alloc ?_ _)); exact BK401.out)) : gb412 ≠ gb401)); have n9_ := Aside0.mk ((by rw [hg]; exact Nat.ne_of_lt (blk_lt (by (with_reducible repeat (first | refine blk_drewN ?_ _ | refine blk_drew ?_ | refine blk_alloc ?_ _)); exact BK402.out)) : gb402 ≠ gb412)); have n10_ := Aside0.mk ((by rw [hg]; exact Nat.ne_of_gt (blk_lt (by (with_reducible repeat (first | refine blk_drewN ?_ _ | refine blk_drew ?_ | refine blk_alloc ?_ _)); exact BK402.out)) : gb412 ≠ gb402)); have n11_ := Aside0.mk ((by rw [hg]; exact Nat.ne_of_lt (blk_lt (by (with_reducible repeat (first | refine blk_drewN ?_ _ | refine blk_drew ?_ | refine blk_alloc ?_ _)); exact BK403.out)) : gb403 ≠ gb412)); have n12_ := Aside0.mk ((by rw [hg]; exact Nat.ne_of_gt (blk_lt (by (with_reducible repeat (first | refine blk_drewN ?_ _ | refine blk_drew ?_ | refine blk_alloc ?_ _)); exact BK403.out)) : gb412 ≠ gb403)); clear BK401; clear BK402; clear BK403; clear HB; have BK401 := n0_; have BK402 := n1_; have BK403 := n2_; have HB := n3_; have BK412 := n4_; have GW412 := n5_; have GE412 := n6_; have NB401_412 := n7_; have NB412_401 := n8_; have NB402_412 := n9_; have NB412_402 := n10_; have NB403_412 := n11_; have NB412_403 := n12_; clear n0_ n1_ n2_ n3_ n4_ n5_ n6_ n7_ n8_ n9_ n10_ n11_ n12_; clear hb hbox hg; have hnb32 := NB412_401.out; have hnc32 := NB401_412.out; have hnb33 := NB412_402.out; have hnc33 := NB402_412.out; have hnb34 := NB412_403.out; have hnc34 := NB403_412.out; obtain ⟨hcz35_0, hcz35_1, hcz35_2, hcz35_3⟩ := cells_4 BK412.out; obtain ⟨hfz35_0, hfz35_1, hfz35_2, hfz35_3⟩ := frozen_4 BK412.out))
     have n0_ : Aside0 (((((w31.setCell ⟨gb412, 0, none⟩ (.int .i64 t407)).setCell ⟨gb412, 1, none⟩ (.int .i64 t408)).setCell ⟨gb412, 2, none⟩ (.int .i64 t409)).setCell ⟨gb412, 3, none⟩ (.string t410)).heap[gb401]? = some (.cells #[.int .i64 a0_0, .int .i64 a0_1, .int .i64 a0_2, .int .i64 a0_3, .int .i64 a0_4, .int .i64 a0_5, .int .i64 a0_6, .int .i64 a0_7, .int .i64 a0_8, .int .i64 a0_9, .slice A0_10 l0_10.length c0_10] 24 (0, 0))) := ⟨by (iterate 4 ((with_reducible repeat (first | refine blk_drewN ?_ _ | refine blk_drew ?_ | refine blk_alloc ?_ _)); refine blk_far ?_ NB401_412.out _)); (with_reducible repeat (first | refine blk_drewN ?_ _ | refine blk_drew ?_ | refine blk_alloc ?_ _)); exact BK401.out⟩
     have n1_ : Aside0 (((((w31.setCell ⟨gb412, 0, none⟩ (.int .i64 t407)).setCell ⟨gb412, 1, none⟩ (.int .i64 t408)).setCell ⟨gb412, 2, none⟩ (.int .i64 t409)).setCell ⟨gb412, 3, none⟩ (.string t410)).heap[gb402]? = some (.cells #[.int .i64 a1_0, .int .i64 a1_1, .int .i64 a1_2, .string a1_3, .int .i64 a1_4, .string a1_5, .string a1_6, .int .i64 a1_7, .int .i64 a1_8, .string a1_9, .string a1_10, .string a1_11, .string a1_12, .string a1_13, .string a1_14, .slice A1_15 l1_15.length c1_15, .slice A1_16 l1_16.length c1_16, .slice A1_17 l1_17.length c1_17, .int .i64 a1_18, .int .i64 a1_19, .int .i64 a1_20, .int .i64 a1_21, .int .i64 a1_22, .int .i64 a1_23] 30 (0, 0))) := ⟨by (iterate 4 ((with_reducible repeat (first | refine blk_drewN ?_ _ | refine blk_drew ?_ | refine blk_alloc ?_ _)); refine blk_far ?_ NB402_412.out _)); (with_reducible repeat (first | refine blk_drewN ?_ _ | refine blk_drew ?_ | refine blk_alloc ?_ _)); exact BK402.out⟩
     have n2_ : Aside0 (((((w31.setCell ⟨gb412, 0, none⟩ (.int .i64 t407)).setCell ⟨gb412, 1, none⟩ (.int .i64 t408)).setCell ⟨gb412, 2, none⟩ (.int .i64 t409)).setCell ⟨gb412, 3, none⟩ (.string t410)).heap[gb403]? = some (.cells #[.string a3_0, .int .i64 a3_1, .string a3_2, .int .i64 a3_3, .int .i64 a3_4, .string a3_5] 32 (0, 0))) := ⟨by (iterate 4 ((with_reducible repeat (first | refine blk_drewN ?_ _ | refine blk_drew ?_ | refine blk_alloc ?_ _)); refine blk_far ?_ NB403_412.out _)); (with_reducible repeat (first | refine blk_drewN ?_ _ | refine blk_drew ?_ | refine blk_alloc ?_ _)); exact BK403.out⟩
     have n3_ : Aside0 (((((w31.setCell ⟨gb412, 0, none⟩ (.int .i64 t407)).setCell ⟨gb412, 1, none⟩ (.int .i64 t408)).setCell ⟨gb412, 2, none⟩ (.int .i64 t409)).setCell ⟨gb412, 3, none⟩ (.string t410)).heap[gb412]? = some (.cells #[.int .i64 t407, .int .i64 t408, .int .i64 t409, .string t410] 35 (0, 0))) := ⟨by (with_reducible repeat (first | refine blk_drewN ?_ _ | refine blk_drew ?_ | refine blk_alloc ?_ _)); refine blk_put (cs := #[.int .i64 t407, .int .i64 t408, .int .i64 t409, .string (⟨#[]⟩ : ByteArray)]) ?_ 3 _ rfl; (with_reducible repeat (first | refine blk_drewN ?_ _ | refine blk_drew ?_ | refine blk_alloc ?_ _)); refine blk_put (cs := #[.int .i64 t407, .int .i64 t408, .int .i64 0, .string (⟨#[]⟩ : ByteArray)]) ?_ 2 _ rfl; (with_reducible repeat (first | refine blk_drewN ?_ _ | refine blk_drew ?_ | refine blk_alloc ?_ _)); refine blk_put (cs := #[.int .i64 t407, .int .i64 0, .int .i64 0, .string (⟨#[]⟩ : ByteArray)]) ?_ 1 _ rfl; (with_reducible repeat (first | refine blk_drewN ?_ _ | refine blk_drew ?_ | refine blk_alloc ?_ _)); refine blk_put (cs := #[.int .i64 0, .int .i64 0, .int .i64 0, .string (⟨#[]⟩ : ByteArray)]) ?_ 0 _ rfl; (with_reducible repeat (first | refine blk_drewN ?_ _ | refine blk_drew ?_ | refine blk_alloc ?_ _)); exact BK412.out⟩
     have n4_ : Aside0 (Below w.heap.size w ((((w31.setCell ⟨gb412, 0, none⟩ (.int .i64 t407)).setCell ⟨gb412, 1, none⟩ (.int .i64 t408)).setCell ⟨gb412, 2, none⟩ (.int .i64 t409)).setCell ⟨gb412, 3, none⟩ (.string t410))) := ⟨by repeat (first | (with_reducible first | exact HB.out | apply below_alloc | apply pw_below_drewN | apply below_drew1 | refine below_set ?_ GE401.out | refine below_set ?_ GE402.out | refine below_set ?_ GE403.out | refine below_set ?_ GE412.out) | exact HB.out)⟩
     (try clear BK401)
     (try clear BK402)
     (try clear BK403)
     (try clear BK412)
     (try clear HB)
     generalize ((((w31.setCell ⟨gb412, 0, none⟩ (.int .i64 t407)).setCell ⟨gb412, 1, none⟩ (.int .i64 t408)).setCell ⟨gb412, 2, none⟩ (.int .i64 t409)).setCell ⟨gb412, 3, none⟩ (.string t410)) = w36 at n0_ n1_ n2_ n3_ n4_ ⊢
     have BK401 := n0_
     have BK402 := n1_
     have BK403 := n2_
     have BK412 := n3_
     have HB := n4_
     clear n0_ n1_ n2_ n3_ n4_
     have n0_ := Aside0.mk (blk_drew BK401.out)
     have n1_ := Aside0.mk (blk_drew BK402.out)
     have n2_ := Aside0.mk (blk_drew BK403.out)
     have n3_ := Aside0.mk (blk_drew BK412.out)
     have n4_ := Aside0.mk (below_drew1 HB.out)
     clear BK401
     clear BK402
     clear BK403
     clear BK412
     clear HB
     have BK401 := n0_
     have BK402 := n1_
     have BK403 := n2_
     have BK412 := n3_
     have HB := n4_
     clear n0_ n1_ n2_ n3_ n4_
     refine start_ (n := 17) (S := fun w' => w'.cell? ⟨gb402, 0, none⟩ = some (.int .i64 a1_0) ∧ w'.cell? ⟨gb402, 1, none⟩ = some (.int .i64 a1_1) ∧ w'.cell? ⟨gb402, 2, none⟩ = some (.int .i64 a1_2) ∧ w'.cell? ⟨gb402, 3, none⟩ = some (.string a1_3) ∧ w'.cell? ⟨gb402, 4, none⟩ = some (.int .i64 a1_4) ∧ w'.cell? ⟨gb402, 5, none⟩ = some (.string a1_5) ∧ w'.cell? ⟨gb402, 6, none⟩ = some (.string a1_6) ∧ w'.cell? ⟨gb402, 7, none⟩ = some (.int .i64 a1_7) ∧ w'.cell? ⟨gb402, 8, none⟩ = some (.int .i64 a1_8) ∧ w'.cell? ⟨gb402, 9, none⟩ = some (.string a1_9) ∧ w'.cell? ⟨gb402, 10, none⟩ = some (.string a1_10) ∧ w'.cell? ⟨gb402, 11, none⟩ = some (.string a1_11) ∧ w'.cell? ⟨gb402, 12, none⟩ = some (.string a1_12) ∧ w'.cell? ⟨gb402, 13, none⟩ = some (.string a1_13) ∧ w'.cell? ⟨gb402, 14, none⟩ = some (.string a1_14) ∧ w'.cell? ⟨gb402, 15, none⟩ = some (.slice A1_15 l1_15.length c1_15) ∧ w'.cell? ⟨gb402, 16, none⟩ = some (.slice A1_16 l1_16.length c1_16) ∧ w'.cell? ⟨gb402, 17, none⟩ = some (.slice A1_17 l1_17.length c1_17) ∧ w'.cell? ⟨gb402, 18, none⟩ = some (.int .i64 a1_18) ∧ w'.cell? ⟨gb402, 19, none⟩ = some (.int .i64 a1_19) ∧ w'.cell? ⟨gb402, 20, none⟩ = some (.int .i64 a1_20) ∧ w'.cell? ⟨gb402, 21, none⟩ = some (.int .i64 a1_21) ∧ w'.cell? ⟨gb402, 22, none⟩ = some (.int .i64 a1_22) ∧ w'.cell? ⟨gb402, 23, none⟩ = some (.int .i64 a1_23) ∧ w'.cell? ⟨gb401, 0, none⟩ = some (.int .i64 a0_0) ∧ w'.cell? ⟨gb401, 1, none⟩ = some (.int .i64 a0_1) ∧ w'.cell? ⟨gb401, 2, none⟩ = some (.int .i64 a0_2) ∧ w'.cell? ⟨gb401, 3, none⟩ = some (.int .i64 a0_3) ∧ w'.cell? ⟨gb401, 4, none⟩ = some (.int .i64 a0_4) ∧ w'.cell? ⟨gb401, 5, none⟩ = some (.int .i64 a0_5) ∧ w'.cell? ⟨gb401, 6, none⟩ = some (.int .i64 a0_6) ∧ w'.cell? ⟨gb401, 7, none⟩ = some (.int .i64 a0_7) ∧ w'.cell? ⟨gb401, 8, none⟩ = some (.int .i64 a0_8) ∧ w'.cell? ⟨gb401, 9, none⟩ = some (.int .i64 a0_9) ∧ w'.cell? ⟨gb401, 10, none⟩ = some (.slice A0_10 l0_10.length c0_10) ∧ w'.cell? ⟨gb412, 0, none⟩ = some (.int .i64 t407) ∧ w'.cell? ⟨gb412, 1, none⟩ = some (.int .i64 t408) ∧ w'.cell? ⟨gb412, 2, none⟩ = some (.int .i64 t409) ∧ w'.cell? ⟨gb412, 3, none⟩ = some (.string t410)) (ds := []) #[false, false, false, false, false, false, false, false, false, false, false, false, false, false, false, false, false] (by kernel_rfl) rfl rfl ⟨(blk_cell BK402.out 0).trans rfl, (blk_cell BK402.out 1).trans rfl, (blk_cell BK402.out 2).trans rfl, (blk_cell BK402.out 3).trans rfl, (blk_cell BK402.out 4).trans rfl, (blk_cell BK402.out 5).trans rfl, (blk_cell BK402.out 6).trans rfl, (blk_cell BK402.out 7).trans rfl, (blk_cell BK402.out 8).trans rfl, (blk_cell BK402.out 9).trans rfl, (blk_cell BK402.out 10).trans rfl, (blk_cell BK402.out 11).trans rfl, (blk_cell BK402.out 12).trans rfl, (blk_cell BK402.out 13).trans rfl, (blk_cell BK402.out 14).trans rfl, (blk_cell BK402.out 15).trans rfl, (blk_cell BK402.out 16).trans rfl, (blk_cell BK402.out 17).trans rfl, (blk_cell BK402.out 18).trans rfl, (blk_cell BK402.out 19).trans rfl, (blk_cell BK402.out 20).trans rfl, (blk_cell BK402.out 21).trans rfl, (blk_cell BK402.out 22).trans rfl, (blk_cell BK402.out 23).trans rfl, (blk_cell BK401.out 0).trans rfl, (blk_cell BK401.out 1).trans rfl, (blk_cell BK401.out 2).trans rfl, (blk_cell BK401.out 3).trans rfl, (blk_cell BK401.out 4).trans rfl, (blk_cell BK401.out 5).trans rfl, (blk_cell BK401.out 6).trans rfl, (blk_cell BK401.out 7).trans rfl, (blk_cell BK401.out 8).trans rfl, (blk_cell BK401.out 9).trans rfl, (blk_cell BK401.out 10).trans rfl, (blk_cell BK412.out 0).trans rfl, (blk_cell BK412.out 1).trans rfl, (blk_cell BK412.out 2).trans rfl, (blk_cell BK412.out 3).trans rfl⟩ (fun hHeld => ?_); refine with_tabW l24_AcceptOwners.tab6 l24_AcceptOwners.bits6 (fun HT_ HW_ => ?_)
     generalize w36.drew = w37 at BK401 BK402 BK403 BK412 HB hHeld ⊢
     refine pure_ (i := 0) (N := some 51) (v := ?_) (a' := ?_) #[true, false, false, false, false, false, false, false, false, false, false, false, false, false, false, false, false] rfl rfl (any_of HT_.out (by kernel_rfl)) (fun _ _ _ h => h) (Or.inl ⟨by rfl, ?_⟩) ?_ ?_
     rotate_left
     ·intro w'
      go_simp
      with_reducible rfl
     rotate_left
     ·simp only [Act.put, List.setIfInBounds_toArray, List.set_cons_zero, List.set_cons_succ, i64_w, i32_w]
      rfl
     refine pure_ (i := 2) (N := some 53) (v := ?_) (a' := ?_) #[true, false, true, false, false, false, false, false, false, false, false, false, false, false, false, false, false] rfl rfl (any_of HT_.out (by kernel_rfl)) (fun _ _ _ h => h) (Or.inl ⟨by rfl, ?_⟩) ?_ ?_
     rotate_left
     ·intro w'
      go_simp
      with_reducible rfl
     rotate_left
     ·simp only [Act.put, List.setIfInBounds_toArray, List.set_cons_zero, List.set_cons_succ, i64_w, i32_w]
      rfl
     refine pure_ (i := 6) (N := some 57) (v := ?_) (a' := ?_) #[true, false, true, false, false, false, true, false, false, false, false, false, false, false, false, false, false] rfl rfl (any_of HT_.out (by kernel_rfl)) (fun _ _ _ h => h) (Or.inl ⟨by rfl, ?_⟩) ?_ ?_
     rotate_left
     ·intro w'
      go_simp
      with_reducible rfl
     rotate_left
     ·simp only [Act.put, List.setIfInBounds_toArray, List.set_cons_zero, List.set_cons_succ, i64_w, i32_w]
      rfl
     refine pure_ (i := 10) (N := some 61) (v := ?_) (a' := ?_) #[true, false, true, false, false, false, true, false, false, false, true, false, false, false, false, false, false] rfl rfl (any_of HT_.out (by kernel_rfl)) (fun _ _ _ h => h) (Or.inl ⟨by rfl, ?_⟩) ?_ ?_
     rotate_left
     ·intro w'
      go_simp
      with_reducible rfl
     rotate_left
     ·simp only [Act.put, List.setIfInBounds_toArray, List.set_cons_zero, List.set_cons_succ, i64_w, i32_w]
      rfl
     refine pure_ (i := 12) (N := some 63) (v := ?_) (a' := ?_) #[true, false, true, false, false, false, true, false, false, false, true, false, true, false, false, false, false] rfl rfl (any_of HT_.out (by kernel_rfl)) (fun _ _ _ h => h) (Or.inl ⟨by rfl, ?_⟩) ?_ ?_
     rotate_left
     ·intro w'
      go_simp
      with_reducible rfl
     rotate_left
     ·simp only [Act.put, List.setIfInBounds_toArray, List.set_cons_zero, List.set_cons_succ, i64_w, i32_w]
      rfl
     refine take_ (i := 1) (N := some 52) (v := ?_) (a' := ?_) #[true, true, true, false, false, false, true, false, false, false, true, false, true, false, false, false, false] rfl rfl (take_ofW HT_.out HW_.out (by kernel_rfl)) (fun _ _ _ h => h) (Or.inl ⟨by rfl, ?_⟩) hHeld ?_ ?_
     rotate_left
     ·rintro w' ⟨s0, s1, s2, s3, s4, s5, s6, s7, s8, s9, s10, s11, s12, s13, s14, s15, s16, s17, s18, s19, s20, s21, s22, s23, s24, s25, s26, s27, s28, s29, s30, s31, s32, s33, s34, s35, s36, s37, s38⟩
      (first | (refine load_cells_11 (ty := 24) (x := .tmp 4) (g := gb401) ?hlo_ ?hx_ Try.underlying24 ?hd_ ?hi_ s24 s25 s26 s27 s28 s29 s30 s31 s32 s33 s34; (case hlo_ => rfl); (case hx_ => rfl); (case hd_ => rfl); (case hi_ => kernel_rfl)) | (refine load_cells_24 (ty := 30) (x := .tmp 5) (g := gb402) ?hlo_ ?hx_ Try.underlying30 ?hd_ ?hi_ s0 s1 s2 s3 s4 s5 s6 s7 s8 s9 s10 s11 s12 s13 s14 s15 s16 s17 s18 s19 s20 s21 s22 s23; (case hlo_ => rfl); (case hx_ => rfl); (case hd_ => rfl); (case hi_ => kernel_rfl)) | (go_simp; with_reducible rfl))
     rotate_left
     ·simp only [Act.put, List.setIfInBounds_toArray, List.set_cons_zero, List.set_cons_succ, i64_w, i32_w]
      rfl
     refine take_ (i := 3) (N := some 54) (v := ?_) (a' := ?_) #[true, true, true, true, false, false, true, false, false, false, true, false, true, false, false, false, false] rfl rfl (take_ofW HT_.out HW_.out (by kernel_rfl)) (fun _ _ _ h => h) (Or.inl ⟨by rfl, ?_⟩) hHeld ?_ ?_
     rotate_left
     ·rintro w' ⟨s0, s1, s2, s3, s4, s5, s6, s7, s8, s9, s10, s11, s12, s13, s14, s15, s16, s17, s18, s19, s20, s21, s22, s23, s24, s25, s26, s27, s28, s29, s30, s31, s32, s33, s34, s35, s36, s37, s38⟩
      (first | (refine load_cells_11 (ty := 24) (x := .tmp 4) (g := gb401) ?hlo_ ?hx_ Try.underlying24 ?hd_ ?hi_ s24 s25 s26 s27 s28 s29 s30 s31 s32 s33 s34; (case hlo_ => rfl); (case hx_ => rfl); (case hd_ => rfl); (case hi_ => kernel_rfl)) | (refine load_cells_24 (ty := 30) (x := .tmp 5) (g := gb402) ?hlo_ ?hx_ Try.underlying30 ?hd_ ?hi_ s0 s1 s2 s3 s4 s5 s6 s7 s8 s9 s10 s11 s12 s13 s14 s15 s16 s17 s18 s19 s20 s21 s22 s23; (case hlo_ => rfl); (case hx_ => rfl); (case hd_ => rfl); (case hi_ => kernel_rfl)) | (go_simp; with_reducible rfl))
     rotate_left
     ·simp only [Act.put, List.setIfInBounds_toArray, List.set_cons_zero, List.set_cons_succ, i64_w, i32_w]
      rfl
     refine take_ (i := 5) (N := some 56) (v := ?_) (a' := ?_) #[true, true, true, true, false, true, true, false, false, false, true, false, true, false, false, false, false] rfl rfl (take_ofW HT_.out HW_.out (by kernel_rfl)) (fun _ _ _ h => h) (Or.inl ⟨by rfl, ?_⟩) hHeld ?_ ?_
     rotate_left
     ·rintro w' ⟨s0, s1, s2, s3, s4, s5, s6, s7, s8, s9, s10, s11, s12, s13, s14, s15, s16, s17, s18, s19, s20, s21, s22, s23, s24, s25, s26, s27, s28, s29, s30, s31, s32, s33, s34, s35, s36, s37, s38⟩
      (first | (refine load_cells_11 (ty := 24) (x := .tmp 4) (g := gb401) ?hlo_ ?hx_ Try.underlying24 ?hd_ ?hi_ s24 s25 s26 s27 s28 s29 s30 s31 s32 s33 s34; (case hlo_ => rfl); (case hx_ => rfl); (case hd_ => rfl); (case hi_ => kernel_rfl)) | (refine load_cells_24 (ty := 30) (x := .tmp 5) (g := gb402) ?hlo_ ?hx_ Try.underlying30 ?hd_ ?hi_ s0 s1 s2 s3 s4 s5 s6 s7 s8 s9 s10 s11 s12 s13 s14 s15 s16 s17 s18 s19 s20 s21 s22 s23; (case hlo_ => rfl); (case hx_ => rfl); (case hd_ => rfl); (case hi_ => kernel_rfl)) | (go_simp; with_reducible rfl))
     rotate_left
     ·simp only [Act.put, List.setIfInBounds_toArray, List.set_cons_zero, List.set_cons_succ, i64_w, i32_w]
      rfl
     refine take_ (i := 7) (N := some 58) (v := ?_) (a' := ?_) #[true, true, true, true, false, true, true, true, false, false, true, false, true, false, false, false, false] rfl rfl (take_ofW HT_.out HW_.out (by kernel_rfl)) (fun _ _ _ h => h) (Or.inl ⟨by rfl, ?_⟩) hHeld ?_ ?_
     rotate_left
     ·rintro w' ⟨s0, s1, s2, s3, s4, s5, s6, s7, s8, s9, s10, s11, s12, s13, s14, s15, s16, s17, s18, s19, s20, s21, s22, s23, s24, s25, s26, s27, s28, s29, s30, s31, s32, s33, s34, s35, s36, s37, s38⟩
      (first | (refine load_cells_11 (ty := 24) (x := .tmp 4) (g := gb401) ?hlo_ ?hx_ Try.underlying24 ?hd_ ?hi_ s24 s25 s26 s27 s28 s29 s30 s31 s32 s33 s34; (case hlo_ => rfl); (case hx_ => rfl); (case hd_ => rfl); (case hi_ => kernel_rfl)) | (refine load_cells_24 (ty := 30) (x := .tmp 5) (g := gb402) ?hlo_ ?hx_ Try.underlying30 ?hd_ ?hi_ s0 s1 s2 s3 s4 s5 s6 s7 s8 s9 s10 s11 s12 s13 s14 s15 s16 s17 s18 s19 s20 s21 s22 s23; (case hlo_ => rfl); (case hx_ => rfl); (case hd_ => rfl); (case hi_ => kernel_rfl)) | (go_simp; with_reducible rfl))
     rotate_left
     ·simp only [Act.put, List.setIfInBounds_toArray, List.set_cons_zero, List.set_cons_succ, i64_w, i32_w]
      rfl
     refine take_ (i := 11) (N := some 62) (v := ?_) (a' := ?_) #[true, true, true, true, false, true, true, true, false, false, true, true, true, false, false, false, false] rfl rfl (take_ofW HT_.out HW_.out (by kernel_rfl)) (fun _ _ _ h => h) (Or.inl ⟨by rfl, ?_⟩) hHeld ?_ ?_
     rotate_left
     ·rintro w' ⟨s0, s1, s2, s3, s4, s5, s6, s7, s8, s9, s10, s11, s12, s13, s14, s15, s16, s17, s18, s19, s20, s21, s22, s23, s24, s25, s26, s27, s28, s29, s30, s31, s32, s33, s34, s35, s36, s37, s38⟩
      (first | (refine load_cells_11 (ty := 24) (x := .tmp 4) (g := gb401) ?hlo_ ?hx_ Try.underlying24 ?hd_ ?hi_ s24 s25 s26 s27 s28 s29 s30 s31 s32 s33 s34; (case hlo_ => rfl); (case hx_ => rfl); (case hd_ => rfl); (case hi_ => kernel_rfl)) | (refine load_cells_24 (ty := 30) (x := .tmp 5) (g := gb402) ?hlo_ ?hx_ Try.underlying30 ?hd_ ?hi_ s0 s1 s2 s3 s4 s5 s6 s7 s8 s9 s10 s11 s12 s13 s14 s15 s16 s17 s18 s19 s20 s21 s22 s23; (case hlo_ => rfl); (case hx_ => rfl); (case hd_ => rfl); (case hi_ => kernel_rfl)) | (go_simp; with_reducible rfl))
     rotate_left
     ·simp only [Act.put, List.setIfInBounds_toArray, List.set_cons_zero, List.set_cons_succ, i64_w, i32_w]
      rfl
     refine take_ (i := 13) (N := some 64) (v := ?_) (a' := ?_) #[true, true, true, true, false, true, true, true, false, false, true, true, true, true, false, false, false] rfl rfl (take_ofW HT_.out HW_.out (by kernel_rfl)) (fun _ _ _ h => h) (Or.inl ⟨by rfl, ?_⟩) hHeld ?_ ?_
     rotate_left
     ·rintro w' ⟨s0, s1, s2, s3, s4, s5, s6, s7, s8, s9, s10, s11, s12, s13, s14, s15, s16, s17, s18, s19, s20, s21, s22, s23, s24, s25, s26, s27, s28, s29, s30, s31, s32, s33, s34, s35, s36, s37, s38⟩
      (first | (refine load_cells_11 (ty := 24) (x := .tmp 4) (g := gb401) ?hlo_ ?hx_ Try.underlying24 ?hd_ ?hi_ s24 s25 s26 s27 s28 s29 s30 s31 s32 s33 s34; (case hlo_ => rfl); (case hx_ => rfl); (case hd_ => rfl); (case hi_ => kernel_rfl)) | (refine load_cells_24 (ty := 30) (x := .tmp 5) (g := gb402) ?hlo_ ?hx_ Try.underlying30 ?hd_ ?hi_ s0 s1 s2 s3 s4 s5 s6 s7 s8 s9 s10 s11 s12 s13 s14 s15 s16 s17 s18 s19 s20 s21 s22 s23; (case hlo_ => rfl); (case hx_ => rfl); (case hd_ => rfl); (case hi_ => kernel_rfl)) | (go_simp; with_reducible rfl))
     rotate_left
     ·simp only [Act.put, List.setIfInBounds_toArray, List.set_cons_zero, List.set_cons_succ, i64_w, i32_w]
      rfl
     refine pure_ (i := 14) (N := some 65) (v := ?_) (a' := ?_) #[true, true, true, true, false, true, true, true, false, false, true, true, true, true, true, false, false] rfl rfl (any_of HT_.out (by kernel_rfl)) (fun _ _ _ h => h) (Or.inl ⟨by rfl, ?_⟩) ?_ ?_
     rotate_left
     ·intro w'
      go_simp
      with_reducible rfl
     rotate_left
     ·simp only [Act.put, List.setIfInBounds_toArray, List.set_cons_zero, List.set_cons_succ, i64_w, i32_w]
      rfl
     refine one_ (i := 4) (N := some 55) #[true, true, true, true, true, true, true, true, false, false, true, true, true, true, true, false, false] rfl rfl (one_of HT_.out (by kernel_rfl)) (by decide) (fun K hK => ?_)
     refine goes_ Try.func15 (by kernel_rfl) rfl #[.int .i64 a1_0, .int .i64 a1_1] (by rfl) rfl rfl (by (try simp only [List.map_toArray, List.map_cons, List.map_nil]); first | done | rfl) ?_
     with_reducible refine (r05_Diff.calls a1_0 a1_1 t414 _ A21.out).mono ?_
     rintro e w' ⟨rfl, ⟨nd, rfl⟩⟩
     refine ⟨_, rfl, ?_⟩
     refine hK.out _ _ (and_24 BK402.out (and_11 BK401.out ⟨(blk_cell BK412.out 0).trans rfl, (blk_cell BK412.out 1).trans rfl, (blk_cell BK412.out 2).trans rfl, (blk_cell BK412.out 3).trans rfl⟩)) (fun hHeld => ?_)
     clear hK K
     refine norm_ (a' := ?_) ?_ ?_
     rotate_left
     ·show Act.put _ (some 55) _ = _
      simp only [Act.put, List.setIfInBounds_toArray, List.set_cons_zero, List.set_cons_succ, i64_w, i32_w]
      rfl
     refine one_ (i := 8) (N := some 59) #[true, true, true, true, true, true, true, true, true, false, true, true, true, true, true, false, false] rfl rfl (one_of HT_.out (by kernel_rfl)) (by decide) (fun K hK => ?_)
     refine goes_ Try.func16 (by kernel_rfl) rfl #[.agg #[.int .i64 a0_0, .int .i64 a0_1, .int .i64 a0_2, .int .i64 a0_3, .int .i64 a0_4, .int .i64 a0_5, .int .i64 a0_6, .int .i64 a0_7, .int .i64 a0_8, .int .i64 a0_9, .slice A0_10 l0_10.length c0_10], .int .i64 t408] (by rfl) rfl rfl (by (try simp only [List.map_toArray, List.map_cons, List.map_nil]); first | done | rfl) ?_
     with_reducible refine (r04_Middle.calls kj4 a0_0 a0_1 a0_2 a0_3 a0_4 a0_5 a0_6 a0_7 a0_8 a0_9 _ _ l0_10 t408 t415 _ ?side1 ?side2 A22.out).mono ?_
     (case side1 => repeat (first | exact (Kd.C_below HR0_10.out (by repeat (first | (with_reducible first | exact HB.out | apply below_alloc | apply pw_below_drewN | apply below_drew1 | refine below_set ?_ GE401.out | refine below_set ?_ GE402.out | refine below_set ?_ GE403.out | refine below_set ?_ GE412.out) | exact HB.out))) | (with_reducible refine Kd.C_alloc ?_ _) | (with_reducible refine Kd.C_drewN ?_ _) | (with_reducible refine Kd.C_drew ?_)))
     (case side2 => exact HC0_10.out)
     rintro e w38 ⟨rfl, hb⟩
     refine ⟨_, rfl, ?_⟩
     have n0_ := Aside0.mk (blk_below (by (with_reducible repeat (first | refine blk_drewN ?_ _ | refine blk_drew ?_ | refine blk_alloc ?_ _)); exact BK401.out) hb)
     have n1_ := Aside0.mk (blk_below (by (with_reducible repeat (first | refine blk_drewN ?_ _ | refine blk_drew ?_ | refine blk_alloc ?_ _)); exact BK402.out) hb)
     have n2_ := Aside0.mk (blk_below (by (with_reducible repeat (first | refine blk_drewN ?_ _ | refine blk_drew ?_ | refine blk_alloc ?_ _)); exact BK403.out) hb)
     have n3_ := Aside0.mk (blk_below (by (with_reducible repeat (first | refine blk_drewN ?_ _ | refine blk_drew ?_ | refine blk_alloc ?_ _)); exact BK412.out) hb)
     have n4_ := Aside0.mk (below_step (by repeat (first | (with_reducible first | exact HB.out | apply below_alloc | apply pw_below_drewN | apply below_drew1 | refine below_set ?_ GE401.out | refine below_set ?_ GE402.out | refine below_set ?_ GE403.out | refine below_set ?_ GE412.out) | exact HB.out)) hb)
     clear BK401
     clear BK402
     clear BK403
     clear BK412
     clear HB
     have BK401 := n0_
     have BK402 := n1_
     have BK403 := n2_
     have BK412 := n3_
     have HB := n4_
     clear n0_ n1_ n2_ n3_ n4_
     (try clear hb)
     (try clear hb2)
     (try clear hk)
     (try clear hi)
     refine hK.out _ _ (and_24 BK402.out (and_11 BK401.out ⟨(blk_cell BK412.out 0).trans rfl, (blk_cell BK412.out 1).trans rfl, (blk_cell BK412.out 2).trans rfl, (blk_cell BK412.out 3).trans rfl⟩)) (fun hHeld => ?_)
     clear hK K
     refine norm_ (a' := ?_) ?_ ?_
     rotate_left
     ·show Act.put _ (some 59) _ = _
      simp only [Act.put, List.setIfInBounds_toArray, List.set_cons_zero, List.set_cons_succ, i64_w, i32_w]
      rfl
     refine pure_ (i := 9) (N := some 60) (v := ?_) (a' := ?_) #[true, true, true, true, true, true, true, true, true, true, true, true, true, true, true, false, false] rfl rfl (any_of HT_.out (by kernel_rfl)) (fun _ _ _ h => h) (Or.inl ⟨by rfl, ?_⟩) ?_ ?_
     rotate_left
     ·intro w'
      go_simp
      with_reducible rfl
     rotate_left
     ·simp only [Act.put, List.setIfInBounds_toArray, List.set_cons_zero, List.set_cons_succ, i64_w, i32_w]
      rfl
     refine pure_ (i := 15) (N := some 66) (v := ?_) (a' := ?_) #[true, true, true, true, true, true, true, true, true, true, true, true, true, true, true, true, false] rfl rfl (any_of HT_.out (by kernel_rfl)) (fun _ _ _ h => h) (Or.inl ⟨by rfl, ?_⟩) ?_ ?_
     rotate_left
     ·intro w'
      go_simp
      with_reducible rfl
     rotate_left
     ·simp only [Act.put, List.setIfInBounds_toArray, List.set_cons_zero, List.set_cons_succ, i64_w, i32_w]
      rfl
     refine pure_ (i := 16) (N := some 13) (v := ?_) (a' := ?_) #[true, true, true, true, true, true, true, true, true, true, true, true, true, true, true, true, true] rfl rfl (any_of HT_.out (by kernel_rfl)) (fun _ _ _ h => h) (Or.inl ⟨by rfl, ?_⟩) ?_ ?_
     rotate_left
     ·intro w'
      go_simp
      with_reducible rfl
     rotate_left
     ·simp only [Act.put, List.setIfInBounds_toArray, List.set_cons_zero, List.set_cons_succ, i64_w, i32_w]
      rfl
     refine done_ (done_of HT_.out (by kernel_rfl)) ?_
     go_upto_region 7 with (fail)
     go_cut [118] (fun v118 wc => ∃ (kq : Nat) (x118_22 : Bool), v118 = .bool x118_22 ∧ Aside0 (l24_AcceptOwners.j1 kq a2 t405 t406 x118_22 a0_0 a0_1 a0_2 a0_3 a0_4 a0_5 a0_6 a0_7 a0_8 a0_9 l0_10 a1_0 a1_1 a1_2 a1_3 a1_4 a1_5 a1_6 a1_7 a1_8 a1_9 a1_10 a1_11 a1_12 a1_13 a1_14 l1_15 l1_16 l1_17 a1_18 a1_19 a1_20 a1_21 a1_22 a1_23 a3_0 a3_1 a3_2 a3_3 a3_4 a3_5 t407 t408 t409 t410 = some r) ∧ Aside0 (kq ≤ kj4) ∧ Aside0 (wc.heap[gb401]? = some (.cells #[.int .i64 a0_0, .int .i64 a0_1, .int .i64 a0_2, .int .i64 a0_3, .int .i64 a0_4, .int .i64 a0_5, .int .i64 a0_6, .int .i64 a0_7, .int .i64 a0_8, .int .i64 a0_9, (.slice A0_10 l0_10.length c0_10)] 24 (0, 0))) ∧ Aside0 (wc.heap[gb402]? = some (.cells #[.int .i64 a1_0, .int .i64 a1_1, .int .i64 a1_2, .string a1_3, .int .i64 a1_4, .string a1_5, .string a1_6, .int .i64 a1_7, .int .i64 a1_8, .string a1_9, .string a1_10, .string a1_11, .string a1_12, .string a1_13, .string a1_14, (.slice A1_15 l1_15.length c1_15), (.slice A1_16 l1_16.length c1_16), (.slice A1_17 l1_17.length c1_17), .int .i64 a1_18, .int .i64 a1_19, .int .i64 a1_20, .int .i64 a1_21, .int .i64 a1_22, .int .i64 a1_23] 30 (0, 0))) ∧ Aside0 (wc.heap[gb403]? = some (.cells #[.string a3_0, .int .i64 a3_1, .string a3_2, .int .i64 a3_3, .int .i64 a3_4, .string a3_5] 32 (0, 0))) ∧ Aside0 (wc.heap[gb412]? = some (.cells #[.int .i64 t407, .int .i64 t408, .int .i64 t409, .string t410] 35 (0, 0))) ∧ Aside0 (Below w.heap.size w wc))
     case first =>
      have H := HC23.out
      clear HC23
      by_cases c39 : a1_8 < 2
      ·rw [if_pos c39] at H
       have c39b0 : decide (a1_8 < 2) = true := decide_eq_true c39
       clear c39
       (first | rw [c39b0] | (simp only [i64_w, i32_w]; rw [c39b0]) | skip)
       have H' := Aside0.mk H
       clear H
       have hnb40 := NB402_401.out
       have hnc40 := NB401_402.out
       have hnb41 := NB402_403.out
       have hnc41 := NB403_402.out
       have hnb42 := NB402_412.out
       have hnc42 := NB412_402.out
       obtain ⟨hcz43_0, hcz43_1, hcz43_2, hcz43_3, hcz43_4, hcz43_5, hcz43_6, hcz43_7, hcz43_8, hcz43_9, hcz43_10, hcz43_11, hcz43_12, hcz43_13, hcz43_14, hcz43_15, hcz43_16, hcz43_17, hcz43_18, hcz43_19, hcz43_20, hcz43_21, hcz43_22, hcz43_23⟩ := cells_24 BK402.out
       obtain ⟨hfz43_0, hfz43_1, hfz43_2, hfz43_3, hfz43_4, hfz43_5, hfz43_6, hfz43_7, hfz43_8, hfz43_9, hfz43_10, hfz43_11, hfz43_12, hfz43_13, hfz43_14, hfz43_15, hfz43_16, hfz43_17, hfz43_18, hfz43_19, hfz43_20, hfz43_21, hfz43_22, hfz43_23⟩ := frozen_24 BK402.out
       go_wp2
       go_meet
       case rel => exact ⟨_, (true), (by first | rfl | (simp; done) | (simp [*]; done)), H', ⟨by have := HJ4.out; first | omega | exact Nat.le_refl _⟩, ⟨by (with_reducible repeat (first | refine blk_drewN ?_ _ | refine blk_drew ?_ | refine blk_alloc ?_ _)); exact BK401.out⟩, ⟨by (with_reducible repeat (first | refine blk_drewN ?_ _ | refine blk_drew ?_ | refine blk_alloc ?_ _)); exact BK402.out⟩, ⟨by (with_reducible repeat (first | refine blk_drewN ?_ _ | refine blk_drew ?_ | refine blk_alloc ?_ _)); exact BK403.out⟩, ⟨by (with_reducible repeat (first | refine blk_drewN ?_ _ | refine blk_drew ?_ | refine blk_alloc ?_ _)); exact BK412.out⟩, ⟨by repeat (first | (with_reducible first | exact HB.out | apply below_alloc | apply pw_below_drewN | apply below_drew1 | refine below_set ?_ GE401.out | refine below_set ?_ GE402.out | refine below_set ?_ GE403.out | refine below_set ?_ GE412.out) | exact HB.out)⟩⟩
      ·rw [if_neg c39] at H
       have c39b0 : decide (a1_8 < 2) = false := decide_eq_false c39
       clear c39
       (first | rw [c39b0] | (simp only [i64_w, i32_w]; rw [c39b0]) | skip)
       by_cases c44 : t407 = a2
       ·rw [if_pos c44] at H
        have c44b0 : (t407 == a2) = true := beq_iff_eq.mpr c44
        have c44b1 : (t407 != a2) = false := bne_eq_false_iff_eq.mpr c44
        clear c44
        replace H := Option.bind_eq_some_iff.mp H
        obtain ⟨t416, A450, H⟩ := H
        replace H : (if t416 = a2 then (if t408 = (wrap64 (a3_3 - 1)) then (if t409 = a1_7 then (if t410.toList = a3_5.toList then ((r04_Guard.f kj4 a0_0 a0_1 a0_2 a0_3 a0_4 a0_5 a0_6 a0_7 a0_8 a0_9 l0_10).bind fun t417 => (if (wrap64 ((wrap64 (t414 - t415)) - (wrap64 (a0_2 * a0_4)))) > t417 then (l24_AcceptOwners.j1 kj4 a2 t405 t406 true a0_0 a0_1 a0_2 a0_3 a0_4 a0_5 a0_6 a0_7 a0_8 a0_9 l0_10 a1_0 a1_1 a1_2 a1_3 a1_4 a1_5 a1_6 a1_7 a1_8 a1_9 a1_10 a1_11 a1_12 a1_13 a1_14 l1_15 l1_16 l1_17 a1_18 a1_19 a1_20 a1_21 a1_22 a1_23 a3_0 a3_1 a3_2 a3_3 a3_4 a3_5 t407 t408 t409 t410) else ((r04_Guard.f kj4 a0_0 a0_1 a0_2 a0_3 a0_4 a0_5 a0_6 a0_7 a0_8 a0_9 l0_10).bind fun t418 => (l24_AcceptOwners.j1 kj4 a2 t405 t406 (decide ((wrap64 (-(wrap64 ((wrap64 (t414 - t415)) - (wrap64 (a0_2 * a0_4)))))) > t418)) a0_0 a0_1 a0_2 a0_3 a0_4 a0_5 a0_6 a0_7 a0_8 a0_9 l0_10 a1_0 a1_1 a1_2 a1_3 a1_4 a1_5 a1_6 a1_7 a1_8 a1_9 a1_10 a1_11 a1_12 a1_13 a1_14 l1_15 l1_16 l1_17 a1_18 a1_19 a1_20 a1_21 a1_22 a1_23 a3_0 a3_1 a3_2 a3_3 a3_4 a3_5 t407 t408 t409 t410)))) else (l24_AcceptOwners.j1 kj4 a2 t405 t406 true a0_0 a0_1 a0_2 a0_3 a0_4 a0_5 a0_6 a0_7 a0_8 a0_9 l0_10 a1_0 a1_1 a1_2 a1_3 a1_4 a1_5 a1_6 a1_7 a1_8 a1_9 a1_10 a1_11 a1_12 a1_13 a1_14 l1_15 l1_16 l1_17 a1_18 a1_19 a1_20 a1_21 a1_22 a1_23 a3_0 a3_1 a3_2 a3_3 a3_4 a3_5 t407 t408 t409 t410)) else (l24_AcceptOwners.j1 kj4 a2 t405 t406 true a0_0 a0_1 a0_2 a0_3 a0_4 a0_5 a0_6 a0_7 a0_8 a0_9 l0_10 a1_0 a1_1 a1_2 a1_3 a1_4 a1_5 a1_6 a1_7 a1_8 a1_9 a1_10 a1_11 a1_12 a1_13 a1_14 l1_15 l1_16 l1_17 a1_18 a1_19 a1_20 a1_21 a1_22 a1_23 a3_0 a3_1 a3_2 a3_3 a3_4 a3_5 t407 t408 t409 t410)) else (l24_AcceptOwners.j1 kj4 a2 t405 t406 true a0_0 a0_1 a0_2 a0_3 a0_4 a0_5 a0_6 a0_7 a0_8 a0_9 l0_10 a1_0 a1_1 a1_2 a1_3 a1_4 a1_5 a1_6 a1_7 a1_8 a1_9 a1_10 a1_11 a1_12 a1_13 a1_14 l1_15 l1_16 l1_17 a1_18 a1_19 a1_20 a1_21 a1_22 a1_23 a3_0 a3_1 a3_2 a3_3 a3_4 a3_5 t407 t408 t409 t410)) else (l24_AcceptOwners.j1 kj4 a2 t405 t406 true a0_0 a0_1 a0_2 a0_3 a0_4 a0_5 a0_6 a0_7 a0_8 a0_9 l0_10 a1_0 a1_1 a1_2 a1_3 a1_4 a1_5 a1_6 a1_7 a1_8 a1_9 a1_10 a1_11 a1_12 a1_13 a1_14 l1_15 l1_16 l1_17 a1_18 a1_19 a1_20 a1_21 a1_22 a1_23 a3_0 a3_1 a3_2 a3_3 a3_4 a3_5 t407 t408 t409 t410)) = some r := H
        have A45 := Aside0.mk A450
        clear A450
        by_cases c46 : t416 = a2
        ·rw [if_pos c46] at H
         have c46b0 : (t416 == a2) = true := beq_iff_eq.mpr c46
         have c46b1 : (t416 != a2) = false := bne_eq_false_iff_eq.mpr c46
         clear c46
         by_cases c47 : t408 = (wrap64 (a3_3 - 1))
         ·rw [if_pos c47] at H
          have c47b0 : (t408 == (wrap64 (a3_3 - 1))) = true := beq_iff_eq.mpr c47
          have c47b1 : (t408 != (wrap64 (a3_3 - 1))) = false := bne_eq_false_iff_eq.mpr c47
          clear c47
          by_cases c48 : t409 = a1_7
          ·rw [if_pos c48] at H
           have c48b0 : (t409 == a1_7) = true := beq_iff_eq.mpr c48
           have c48b1 : (t409 != a1_7) = false := bne_eq_false_iff_eq.mpr c48
           clear c48
           by_cases c49 : t410.toList = a3_5.toList
           ·rw [if_pos c49] at H
            have c49b0 : (t410.toList == a3_5.toList) = true := beq_iff_eq.mpr c49
            have c49b1 : (t410.toList != a3_5.toList) = false := bne_eq_false_iff_eq.mpr c49
            clear c49
            replace H := Option.bind_eq_some_iff.mp H
            obtain ⟨t417, A500, H⟩ := H
            replace H : (if (wrap64 ((wrap64 (t414 - t415)) - (wrap64 (a0_2 * a0_4)))) > t417 then (l24_AcceptOwners.j1 kj4 a2 t405 t406 true a0_0 a0_1 a0_2 a0_3 a0_4 a0_5 a0_6 a0_7 a0_8 a0_9 l0_10 a1_0 a1_1 a1_2 a1_3 a1_4 a1_5 a1_6 a1_7 a1_8 a1_9 a1_10 a1_11 a1_12 a1_13 a1_14 l1_15 l1_16 l1_17 a1_18 a1_19 a1_20 a1_21 a1_22 a1_23 a3_0 a3_1 a3_2 a3_3 a3_4 a3_5 t407 t408 t409 t410) else ((r04_Guard.f kj4 a0_0 a0_1 a0_2 a0_3 a0_4 a0_5 a0_6 a0_7 a0_8 a0_9 l0_10).bind fun t418 => (l24_AcceptOwners.j1 kj4 a2 t405 t406 (decide ((wrap64 (-(wrap64 ((wrap64 (t414 - t415)) - (wrap64 (a0_2 * a0_4)))))) > t418)) a0_0 a0_1 a0_2 a0_3 a0_4 a0_5 a0_6 a0_7 a0_8 a0_9 l0_10 a1_0 a1_1 a1_2 a1_3 a1_4 a1_5 a1_6 a1_7 a1_8 a1_9 a1_10 a1_11 a1_12 a1_13 a1_14 l1_15 l1_16 l1_17 a1_18 a1_19 a1_20 a1_21 a1_22 a1_23 a3_0 a3_1 a3_2 a3_3 a3_4 a3_5 t407 t408 t409 t410))) = some r := H
            have A50 := Aside0.mk A500
            clear A500
            by_cases c51 : (wrap64 ((wrap64 (t414 - t415)) - (wrap64 (a0_2 * a0_4)))) > t417
            ·rw [if_pos c51] at H
             have c51b0 : decide (t417 < (wrap64 ((wrap64 (t414 - t415)) - (wrap64 (a0_2 * a0_4))))) = true := decide_eq_true c51
             clear c51
             have H' := Aside0.mk H
             clear H
             have hnb52 := NB402_401.out
             have hnc52 := NB401_402.out
             have hnb53 := NB402_403.out
             have hnc53 := NB403_402.out
             have hnb54 := NB402_412.out
             have hnc54 := NB412_402.out
             obtain ⟨hcz55_0, hcz55_1, hcz55_2, hcz55_3, hcz55_4, hcz55_5, hcz55_6, hcz55_7, hcz55_8, hcz55_9, hcz55_10, hcz55_11, hcz55_12, hcz55_13, hcz55_14, hcz55_15, hcz55_16, hcz55_17, hcz55_18, hcz55_19, hcz55_20, hcz55_21, hcz55_22, hcz55_23⟩ := cells_24 BK402.out
             obtain ⟨hfz55_0, hfz55_1, hfz55_2, hfz55_3, hfz55_4, hfz55_5, hfz55_6, hfz55_7, hfz55_8, hfz55_9, hfz55_10, hfz55_11, hfz55_12, hfz55_13, hfz55_14, hfz55_15, hfz55_16, hfz55_17, hfz55_18, hfz55_19, hfz55_20, hfz55_21, hfz55_22, hfz55_23⟩ := frozen_24 BK402.out
             have hnb56 := NB412_401.out
             have hnc56 := NB401_412.out
             have hnb57 := NB412_403.out
             have hnc57 := NB403_412.out
             have hcz58_0 : w38.cell? ⟨gb412, 0, none⟩ = some (.int .i64 t407) := (blk_cell BK412.out 0).trans rfl
             have hcz58_1 : w38.cell? ⟨gb412, 1, none⟩ = some (.int .i64 t408) := (blk_cell BK412.out 1).trans rfl
             have hcz58_2 : w38.cell? ⟨gb412, 2, none⟩ = some (.int .i64 t409) := (blk_cell BK412.out 2).trans rfl
             have hcz58_3 : w38.cell? ⟨gb412, 3, none⟩ = some (.string t410) := (blk_cell BK412.out 3).trans rfl
             have hfz58_0 := blk_frozen BK412.out 0
             have hfz58_1 := blk_frozen BK412.out 1
             have hfz58_2 := blk_frozen BK412.out 2
             have hfz58_3 := blk_frozen BK412.out 3
             have hnb59 := NB401_403.out
             have hnc59 := NB403_401.out
             obtain ⟨hcz60_0, hcz60_1, hcz60_2, hcz60_3, hcz60_4, hcz60_5, hcz60_6, hcz60_7, hcz60_8, hcz60_9, hcz60_10⟩ := cells_11 BK401.out
             obtain ⟨hfz60_0, hfz60_1, hfz60_2, hfz60_3, hfz60_4, hfz60_5, hfz60_6, hfz60_7, hfz60_8, hfz60_9, hfz60_10⟩ := frozen_11 BK401.out
             go_wp2_with (first | ((with_reducible refine gate_load (t := 24) (x := .tmp 4) rfl ?_); refine load_row_g (cs := ?_) ?hw 24 (.tmp 4) ?h2 gb401 ?hx 24 (fr := (0, 0)) (d := ?_) ?hg ?h3 ?h4 ?hi ?_; (case hw => first | (with_reducible rfl) | (go_simp; done) | rfl); (case h2 => rfl); (case hx => first | (with_reducible rfl) | (go_simp; done) | rfl); (case hg => (with_reducible repeat (first | refine blk_drewN ?_ _ | refine blk_drew ?_ | refine blk_alloc ?_ _)); with_reducible exact BK401.out); (case h3 => exact Try.underlying24); (case h4 => rfl); (case hi => kernel_rfl)) | ((with_reducible refine gate_load (t := 30) (x := .tmp 5) rfl ?_); refine load_row_g (cs := ?_) ?hw 30 (.tmp 5) ?h2 gb402 ?hx 30 (fr := (0, 0)) (d := ?_) ?hg ?h3 ?h4 ?hi ?_; (case hw => first | (with_reducible rfl) | (go_simp; done) | rfl); (case h2 => rfl); (case hx => first | (with_reducible rfl) | (go_simp; done) | rfl); (case hg => (with_reducible repeat (first | refine blk_drewN ?_ _ | refine blk_drew ?_ | refine blk_alloc ?_ _)); with_reducible exact BK402.out); (case h3 => exact Try.underlying30); (case h4 => rfl); (case hi => kernel_rfl)) | ((with_reducible refine gate_load (t := 32) (x := .tmp 7) rfl ?_); refine load_row_g (cs := ?_) ?hw 32 (.tmp 7) ?h2 gb403 ?hx 32 (fr := (0, 0)) (d := ?_) ?hg ?h3 ?h4 ?hi ?_; (case hw => first | (with_reducible rfl) | (go_simp; done) | rfl); (case h2 => rfl); (case hx => first | (with_reducible rfl) | (go_simp; done) | rfl); (case hg => (with_reducible repeat (first | refine blk_drewN ?_ _ | refine blk_drew ?_ | refine blk_alloc ?_ _)); with_reducible exact BK403.out); (case h3 => exact Try.underlying32); (case h4 => rfl); (case hi => kernel_rfl)) | (go_at_call 17; (with_reducible refine (r21_Owner.calls kj4 a0_0 a0_1 a0_2 a0_3 a0_4 a0_5 a0_6 a0_7 a0_8 a0_9 _ _ l0_10 t408 t416 _ ?side1 ?side2 A45.out).mono ?_); (case side1 => repeat (first | exact (Kd.C_below HR0_10.out HB.out) | (with_reducible refine Kd.C_alloc ?_ _) | (with_reducible refine Kd.C_drewN ?_ _) | (with_reducible refine Kd.C_drew ?_))); (case side2 => exact HC0_10.out); rintro e w61 ⟨rfl, hb⟩; have n0_ := Aside0.mk (blk_below (by (with_reducible repeat (first | refine blk_drewN ?_ _ | refine blk_drew ?_ | refine blk_alloc ?_ _)); exact BK401.out) hb); have n1_ := Aside0.mk (blk_below (by (with_reducible repeat (first | refine blk_drewN ?_ _ | refine blk_drew ?_ | refine blk_alloc ?_ _)); exact BK402.out) hb); have n2_ := Aside0.mk (blk_below (by (with_reducible repeat (first | refine blk_drewN ?_ _ | refine blk_drew ?_ | refine blk_alloc ?_ _)); exact BK403.out) hb); have n3_ := Aside0.mk (blk_below (by (with_reducible repeat (first | refine blk_drewN ?_ _ | refine blk_drew ?_ | refine blk_alloc ?_ _)); exact BK412.out) hb); have n4_ := Aside0.mk (below_step (by repeat (first | (with_reducible first | exact HB.out | apply below_alloc | apply pw_below_drewN | apply below_drew1 | refine below_set ?_ GE401.out | refine below_set ?_ GE402.out | refine below_set ?_ GE403.out | refine below_set ?_ GE412.out) | exact HB.out)) hb); clear BK401; clear BK402; clear BK403; clear BK412; clear HB; have BK401 := n0_; have BK402 := n1_; have BK403 := n2_; have BK412 := n3_; have HB := n4_; clear n0_ n1_ n2_ n3_ n4_; (try clear hb); obtain ⟨hcz62_0, hcz62_1, hcz62_2, hcz62_3⟩ := cells_4 BK412.out; obtain ⟨hfz62_0, hfz62_1, hfz62_2, hfz62_3⟩ := frozen_4 BK412.out; have hall1_ := cells_6 BK403.out; have hall2_ := frozen_6 BK403.out; have hall3_ := cells_24 BK402.out; have hall4_ := frozen_24 BK402.out; have hall5_ := cells_11 BK401.out; have hall6_ := frozen_11 BK401.out) | (go_at_call 18; (with_reducible refine (r04_Guard.calls kj4 a0_0 a0_1 a0_2 a0_3 a0_4 a0_5 a0_6 a0_7 a0_8 a0_9 _ _ l0_10 t417 _ ?side1 ?side2 A50.out).mono ?_); (case side1 => repeat (first | exact (Kd.C_below HR0_10.out HB.out) | (with_reducible refine Kd.C_alloc ?_ _) | (with_reducible refine Kd.C_drewN ?_ _) | (with_reducible refine Kd.C_drew ?_))); (case side2 => exact HC0_10.out); rintro e w66 ⟨rfl, hb⟩; have n0_ := Aside0.mk (blk_below (by (with_reducible repeat (first | refine blk_drewN ?_ _ | refine blk_drew ?_ | refine blk_alloc ?_ _)); exact BK401.out) hb); have n1_ := Aside0.mk (blk_below (by (with_reducible repeat (first | refine blk_drewN ?_ _ | refine blk_drew ?_ | refine blk_alloc ?_ _)); exact BK402.out) hb); have n2_ := Aside0.mk (blk_below (by (with_reducible repeat (first | refine blk_drewN ?_ _ | refine blk_drew ?_ | refine blk_alloc ?_ _)); exact BK403.out) hb); have n3_ := Aside0.mk (blk_below (by (with_reducible repeat (first | refine blk_drewN ?_ _ | refine blk_drew ?_ | refine blk_alloc ?_ _)); exact BK412.out) hb); have n4_ := Aside0.mk (below_step (by repeat (first | (with_reducible first | exact HB.out | apply below_alloc | apply pw_below_drewN | apply below_drew1 | refine below_set ?_ GE401.out | refine below_set ?_ GE402.out | refine below_set ?_ GE403.out | refine below_set ?_ GE412.out) | exact HB.out)) hb); clear BK401; clear BK402; clear BK403; clear BK412; clear HB; have BK401 := n0_; have BK402 := n1_; have BK403 := n2_; have BK412 := n3_; have HB := n4_; clear n0_ n1_ n2_ n3_ n4_; (try clear hb)))
             go_meet
             case rel => exact ⟨_, (true), (by first | rfl | (simp; done) | (simp [*]; done)), H', ⟨by have := HJ4.out; first | omega | exact Nat.le_refl _⟩, ⟨by (with_reducible repeat (first | refine blk_drewN ?_ _ | refine blk_drew ?_ | refine blk_alloc ?_ _)); exact BK401.out⟩, ⟨by (with_reducible repeat (first | refine blk_drewN ?_ _ | refine blk_drew ?_ | refine blk_alloc ?_ _)); exact BK402.out⟩, ⟨by (with_reducible repeat (first | refine blk_drewN ?_ _ | refine blk_drew ?_ | refine blk_alloc ?_ _)); exact BK403.out⟩, ⟨by (with_reducible repeat (first | refine blk_drewN ?_ _ | refine blk_drew ?_ | refine blk_alloc ?_ _)); exact BK412.out⟩, ⟨by repeat (first | (with_reducible first | exact HB.out | apply below_alloc | apply pw_below_drewN | apply below_drew1 | refine below_set ?_ GE401.out | refine below_set ?_ GE402.out | refine below_set ?_ GE403.out | refine below_set ?_ GE412.out) | exact HB.out)⟩⟩
            ·rw [if_neg c51] at H
             have c51b0 : decide (t417 < (wrap64 ((wrap64 (t414 - t415)) - (wrap64 (a0_2 * a0_4))))) = false := decide_eq_false c51
             clear c51
             replace H := Option.bind_eq_some_iff.mp H
             obtain ⟨t418, A670, H⟩ := H
             replace H : (l24_AcceptOwners.j1 kj4 a2 t405 t406 (decide ((wrap64 (-(wrap64 ((wrap64 (t414 - t415)) - (wrap64 (a0_2 * a0_4)))))) > t418)) a0_0 a0_1 a0_2 a0_3 a0_4 a0_5 a0_6 a0_7 a0_8 a0_9 l0_10 a1_0 a1_1 a1_2 a1_3 a1_4 a1_5 a1_6 a1_7 a1_8 a1_9 a1_10 a1_11 a1_12 a1_13 a1_14 l1_15 l1_16 l1_17 a1_18 a1_19 a1_20 a1_21 a1_22 a1_23 a3_0 a3_1 a3_2 a3_3 a3_4 a3_5 t407 t408 t409 t410) = some r := H
             have A67 := Aside0.mk A670
             clear A670
             have H' := Aside0.mk H
             clear H
             have hnb68 := NB402_401.out
             have hnc68 := NB401_402.out
             have hnb69 := NB402_403.out
             have hnc69 := NB403_402.out
             have hnb70 := NB402_412.out
             have hnc70 := NB412_402.out
             obtain ⟨hcz71_0, hcz71_1, hcz71_2, hcz71_3, hcz71_4, hcz71_5, hcz71_6, hcz71_7, hcz71_8, hcz71_9, hcz71_10, hcz71_11, hcz71_12, hcz71_13, hcz71_14, hcz71_15, hcz71_16, hcz71_17, hcz71_18, hcz71_19, hcz71_20, hcz71_21, hcz71_22, hcz71_23⟩ := cells_24 BK402.out
             obtain ⟨hfz71_0, hfz71_1, hfz71_2, hfz71_3, hfz71_4, hfz71_5, hfz71_6, hfz71_7, hfz71_8, hfz71_9, hfz71_10, hfz71_11, hfz71_12, hfz71_13, hfz71_14, hfz71_15, hfz71_16, hfz71_17, hfz71_18, hfz71_19, hfz71_20, hfz71_21, hfz71_22, hfz71_23⟩ := frozen_24 BK402.out
             have hnb72 := NB412_401.out
             have hnc72 := NB401_412.out
             have hnb73 := NB412_403.out
             have hnc73 := NB403_412.out
             have hcz74_0 : w38.cell? ⟨gb412, 0, none⟩ = some (.int .i64 t407) := (blk_cell BK412.out 0).trans rfl
             have hcz74_1 : w38.cell? ⟨gb412, 1, none⟩ = some (.int .i64 t408) := (blk_cell BK412.out 1).trans rfl
             have hcz74_2 : w38.cell? ⟨gb412, 2, none⟩ = some (.int .i64 t409) := (blk_cell BK412.out 2).trans rfl
             have hcz74_3 : w38.cell? ⟨gb412, 3, none⟩ = some (.string t410) := (blk_cell BK412.out 3).trans rfl
             have hfz74_0 := blk_frozen BK412.out 0
             have hfz74_1 := blk_frozen BK412.out 1
             have hfz74_2 := blk_frozen BK412.out 2
             have hfz74_3 := blk_frozen BK412.out 3
             have hnb75 := NB401_403.out
             have hnc75 := NB403_401.out
             obtain ⟨hcz76_0, hcz76_1, hcz76_2, hcz76_3, hcz76_4, hcz76_5, hcz76_6, hcz76_7, hcz76_8, hcz76_9, hcz76_10⟩ := cells_11 BK401.out
             obtain ⟨hfz76_0, hfz76_1, hfz76_2, hfz76_3, hfz76_4, hfz76_5, hfz76_6, hfz76_7, hfz76_8, hfz76_9, hfz76_10⟩ := frozen_11 BK401.out
             go_wp2_with (first | ((with_reducible refine gate_load (t := 24) (x := .tmp 4) rfl ?_); refine load_row_g (cs := ?_) ?hw 24 (.tmp 4) ?h2 gb401 ?hx 24 (fr := (0, 0)) (d := ?_) ?hg ?h3 ?h4 ?hi ?_; (case hw => first | (with_reducible rfl) | (go_simp; done) | rfl); (case h2 => rfl); (case hx => first | (with_reducible rfl) | (go_simp; done) | rfl); (case hg => (with_reducible repeat (first | refine blk_drewN ?_ _ | refine blk_drew ?_ | refine blk_alloc ?_ _)); with_reducible exact BK401.out); (case h3 => exact Try.underlying24); (case h4 => rfl); (case hi => kernel_rfl)) | ((with_reducible refine gate_load (t := 30) (x := .tmp 5) rfl ?_); refine load_row_g (cs := ?_) ?hw 30 (.tmp 5) ?h2 gb402 ?hx 30 (fr := (0, 0)) (d := ?_) ?hg ?h3 ?h4 ?hi ?_; (case hw => first | (with_reducible rfl) | (go_simp; done) | rfl); (case h2 => rfl); (case hx => first | (with_reducible rfl) | (go_simp; done) | rfl); (case hg => (with_reducible repeat (first | refine blk_drewN ?_ _ | refine blk_drew ?_ | refine blk_alloc ?_ _)); with_reducible exact BK402.out); (case h3 => exact Try.underlying30); (case h4 => rfl); (case hi => kernel_rfl)) | ((with_reducible refine gate_load (t := 32) (x := .tmp 7) rfl ?_); refine load_row_g (cs := ?_) ?hw 32 (.tmp 7) ?h2 gb403 ?hx 32 (fr := (0, 0)) (d := ?_) ?hg ?h3 ?h4 ?hi ?_; (case hw => first | (with_reducible rfl) | (go_simp; done) | rfl); (case h2 => rfl); (case hx => first | (with_reducible rfl) | (go_simp; done) | rfl); (case hg => (with_reducible repeat (first | refine blk_drewN ?_ _ | refine blk_drew ?_ | refine blk_alloc ?_ _)); with_reducible exact BK403.out); (case h3 => exact Try.underlying32); (case h4 => rfl); (case hi => kernel_rfl)) | (go_at_call 17; (with_reducible refine (r21_Owner.calls kj4 a0_0 a0_1 a0_2 a0_3 a0_4 a0_5 a0_6 a0_7 a0_8 a0_9 _ _ l0_10 t408 t416 _ ?side1 ?side2 A45.out).mono ?_); (case side1 => repeat (first | exact (Kd.C_below HR0_10.out HB.out) | (with_reducible refine Kd.C_alloc ?_ _) | (with_reducible refine Kd.C_drewN ?_ _) | (with_reducible refine Kd.C_drew ?_))); (case side2 => exact HC0_10.out); rintro e w77 ⟨rfl, hb⟩; have n0_ := Aside0.mk (blk_below (by (with_reducible repeat (first | refine blk_drewN ?_ _ | refine blk_drew ?_ | refine blk_alloc ?_ _)); exact BK401.out) hb); have n1_ := Aside0.mk (blk_below (by (with_reducible repeat (first | refine blk_drewN ?_ _ | refine blk_drew ?_ | refine blk_alloc ?_ _)); exact BK402.out) hb); have n2_ := Aside0.mk (blk_below (by (with_reducible repeat (first | refine blk_drewN ?_ _ | refine blk_drew ?_ | refine blk_alloc ?_ _)); exact BK403.out) hb); have n3_ := Aside0.mk (blk_below (by (with_reducible repeat (first | refine blk_drewN ?_ _ | refine blk_drew ?_ | refine blk_alloc ?_ _)); exact BK412.out) hb); have n4_ := Aside0.mk (below_step (by repeat (first | (with_reducible first | exact HB.out | apply below_alloc | apply pw_below_drewN | apply below_drew1 | refine below_set ?_ GE401.out | refine below_set ?_ GE402.out | refine below_set ?_ GE403.out | refine below_set ?_ GE412.out) | exact HB.out)) hb); clear BK401; clear BK402; clear BK403; clear BK412; clear HB; have BK401 := n0_; have BK402 := n1_; have BK403 := n2_; have BK412 := n3_; have HB := n4_; clear n0_ n1_ n2_ n3_ n4_; (try clear hb); obtain ⟨hcz78_0, hcz78_1, hcz78_2, hcz78_3⟩ := cells_4 BK412.out; obtain ⟨hfz78_0, hfz78_1, hfz78_2, hfz78_3⟩ := frozen_4 BK412.out; have hall7_ := cells_6 BK403.out; have hall8_ := frozen_6 BK403.out; have hall9_ := cells_24 BK402.out; have hall10_ := frozen_24 BK402.out; have hall11_ := cells_11 BK401.out; have hall12_ := frozen_11 BK401.out) | (go_at_call 18; (with_reducible refine (r04_Guard.calls kj4 a0_0 a0_1 a0_2 a0_3 a0_4 a0_5 a0_6 a0_7 a0_8 a0_9 _ _ l0_10 t417 _ ?side1 ?side2 A50.out).mono ?_); (case side1 => repeat (first | exact (Kd.C_below HR0_10.out HB.out) | (with_reducible refine Kd.C_alloc ?_ _) | (with_reducible refine Kd.C_drewN ?_ _) | (with_reducible refine Kd.C_drew ?_))); (case side2 => exact HC0_10.out); rintro e w82 ⟨rfl, hb⟩; have n0_ := Aside0.mk (blk_below (by (with_reducible repeat (first | refine blk_drewN ?_ _ | refine blk_drew ?_ | refine blk_alloc ?_ _)); exact BK401.out) hb); have n1_ := Aside0.mk (blk_below (by (with_reducible repeat (first | refine blk_drewN ?_ _ | refine blk_drew ?_ | refine blk_alloc ?_ _)); exact BK402.out) hb); have n2_ := Aside0.mk (blk_below (by (with_reducible repeat (first | refine blk_drewN ?_ _ | refine blk_drew ?_ | refine blk_alloc ?_ _)); exact BK403.out) hb); have n3_ := Aside0.mk (blk_below (by (with_reducible repeat (first | refine blk_drewN ?_ _ | refine blk_drew ?_ | refine blk_alloc ?_ _)); exact BK412.out) hb); have n4_ := Aside0.mk (below_step (by repeat (first | (with_reducible first | exact HB.out | apply below_alloc | apply pw_below_drewN | apply below_drew1 | refine below_set ?_ GE401.out | refine below_set ?_ GE402.out | refine below_set ?_ GE403.out | refine below_set ?_ GE412.out) | exact HB.out)) hb); clear BK401; clear BK402; clear BK403; clear BK412; clear HB; have BK401 := n0_; have BK402 := n1_; have BK403 := n2_; have BK412 := n3_; have HB := n4_; clear n0_ n1_ n2_ n3_ n4_; (try clear hb); have hall13_ := cells_11 BK401.out; have hall14_ := frozen_11 BK401.out) | (go_at_call 18; (with_reducible refine (r04_Guard.calls kj4 a0_0 a0_1 a0_2 a0_3 a0_4 a0_5 a0_6 a0_7 a0_8 a0_9 _ _ l0_10 t418 _ ?side1 ?side2 A67.out).mono ?_); (case side1 => repeat (first | exact (Kd.C_below HR0_10.out HB.out) | (with_reducible refine Kd.C_alloc ?_ _) | (with_reducible refine Kd.C_drewN ?_ _) | (with_reducible refine Kd.C_drew ?_))); (case side2 => exact HC0_10.out); rintro e w84 ⟨rfl, hb⟩; have n0_ := Aside0.mk (blk_below (by (with_reducible repeat (first | refine blk_drewN ?_ _ | refine blk_drew ?_ | refine blk_alloc ?_ _)); exact BK401.out) hb); have n1_ := Aside0.mk (blk_below (by (with_reducible repeat (first | refine blk_drewN ?_ _ | refine blk_drew ?_ | refine blk_alloc ?_ _)); exact BK402.out) hb); have n2_ := Aside0.mk (blk_below (by (with_reducible repeat (first | refine blk_drewN ?_ _ | refine blk_drew ?_ | refine blk_alloc ?_ _)); exact BK403.out) hb); have n3_ := Aside0.mk (blk_below (by (with_reducible repeat (first | refine blk_drewN ?_ _ | refine blk_drew ?_ | refine blk_alloc ?_ _)); exact BK412.out) hb); have n4_ := Aside0.mk (below_step (by repeat (first | (with_reducible first | exact HB.out | apply below_alloc | apply pw_below_drewN | apply below_drew1 | refine below_set ?_ GE401.out | refine below_set ?_ GE402.out | refine below_set ?_ GE403.out | refine below_set ?_ GE412.out) | exact HB.out)) hb); clear BK401; clear BK402; clear BK403; clear BK412; clear HB; have BK401 := n0_; have BK402 := n1_; have BK403 := n2_; have BK412 := n3_; have HB := n4_; clear n0_ n1_ n2_ n3_ n4_; (try clear hb)))
             go_meet
             case rel => (try have EA67_ := Option.some.inj (A67.out.symm.trans A50.out)); exact ⟨_, (decide ((wrap64 (-(wrap64 ((wrap64 (t414 - t415)) - (wrap64 (a0_2 * a0_4)))))) > t418)), (by first | rfl | (simp; done) | (simp [*]; done)), H', ⟨by have := HJ4.out; first | omega | exact Nat.le_refl _⟩, ⟨by (with_reducible repeat (first | refine blk_drewN ?_ _ | refine blk_drew ?_ | refine blk_alloc ?_ _)); exact BK401.out⟩, ⟨by (with_reducible repeat (first | refine blk_drewN ?_ _ | refine blk_drew ?_ | refine blk_alloc ?_ _)); exact BK402.out⟩, ⟨by (with_reducible repeat (first | refine blk_drewN ?_ _ | refine blk_drew ?_ | refine blk_alloc ?_ _)); exact BK403.out⟩, ⟨by (with_reducible repeat (first | refine blk_drewN ?_ _ | refine blk_drew ?_ | refine blk_alloc ?_ _)); exact BK412.out⟩, ⟨by repeat (first | (with_reducible first | exact HB.out | apply below_alloc | apply pw_below_drewN | apply below_drew1 | refine below_set ?_ GE401.out | refine below_set ?_ GE402.out | refine below_set ?_ GE403.out | refine below_set ?_ GE412.out) | exact HB.out)⟩⟩
           ·rw [if_neg c49] at H
            have c49b0 : (t410.toList == a3_5.toList) = false := beq_eq_false_iff_ne.mpr c49
            have c49b1 : (t410.toList != a3_5.toList) = true := bne_iff_ne.mpr c49
            have H' := Aside0.mk H
            clear H
            have hnb85 := NB402_401.out
            have hnc85 := NB401_402.out
            have hnb86 := NB402_403.out
            have hnc86 := NB403_402.out
            have hnb87 := NB402_412.out
            have hnc87 := NB412_402.out
            obtain ⟨hcz88_0, hcz88_1, hcz88_2, hcz88_3, hcz88_4, hcz88_5, hcz88_6, hcz88_7, hcz88_8, hcz88_9, hcz88_10, hcz88_11, hcz88_12, hcz88_13, hcz88_14, hcz88_15, hcz88_16, hcz88_17, hcz88_18, hcz88_19, hcz88_20, hcz88_21, hcz88_22, hcz88_23⟩ := cells_24 BK402.out
            obtain ⟨hfz88_0, hfz88_1, hfz88_2, hfz88_3, hfz88_4, hfz88_5, hfz88_6, hfz88_7, hfz88_8, hfz88_9, hfz88_10, hfz88_11, hfz88_12, hfz88_13, hfz88_14, hfz88_15, hfz88_16, hfz88_17, hfz88_18, hfz88_19, hfz88_20, hfz88_21, hfz88_22, hfz88_23⟩ := frozen_24 BK402.out
            have hnb89 := NB412_401.out
            have hnc89 := NB401_412.out
            have hnb90 := NB412_403.out
            have hnc90 := NB403_412.out
            have hcz91_0 : w38.cell? ⟨gb412, 0, none⟩ = some (.int .i64 t407) := (blk_cell BK412.out 0).trans rfl
            have hcz91_1 : w38.cell? ⟨gb412, 1, none⟩ = some (.int .i64 t408) := (blk_cell BK412.out 1).trans rfl
            have hcz91_2 : w38.cell? ⟨gb412, 2, none⟩ = some (.int .i64 t409) := (blk_cell BK412.out 2).trans rfl
            have hcz91_3 : w38.cell? ⟨gb412, 3, none⟩ = some (.string t410) := (blk_cell BK412.out 3).trans rfl
            have hfz91_0 := blk_frozen BK412.out 0
            have hfz91_1 := blk_frozen BK412.out 1
            have hfz91_2 := blk_frozen BK412.out 2
            have hfz91_3 := blk_frozen BK412.out 3
            have hnb92 := NB401_403.out
            have hnc92 := NB403_401.out
            obtain ⟨hcz93_0, hcz93_1, hcz93_2, hcz93_3, hcz93_4, hcz93_5, hcz93_6, hcz93_7, hcz93_8, hcz93_9, hcz93_10⟩ := cells_11 BK401.out
            obtain ⟨hfz93_0, hfz93_1, hfz93_2, hfz93_3, hfz93_4, hfz93_5, hfz93_6, hfz93_7, hfz93_8, hfz93_9, hfz93_10⟩ := frozen_11 BK401.out
            go_wp2_with (first | ((with_reducible refine gate_load (t := 24) (x := .tmp 4) rfl ?_); refine load_row_g (cs := ?_) ?hw 24 (.tmp 4) ?h2 gb401 ?hx 24 (fr := (0, 0)) (d := ?_) ?hg ?h3 ?h4 ?hi ?_; (case hw => first | (with_reducible rfl) | (go_simp; done) | rfl); (case h2 => rfl); (case hx => first | (with_reducible rfl) | (go_simp; done) | rfl); (case hg => (with_reducible repeat (first | refine blk_drewN ?_ _ | refine blk_drew ?_ | refine blk_alloc ?_ _)); with_reducible exact BK401.out); (case h3 => exact Try.underlying24); (case h4 => rfl); (case hi => kernel_rfl)) | ((with_reducible refine gate_load (t := 30) (x := .tmp 5) rfl ?_); refine load_row_g (cs := ?_) ?hw 30 (.tmp 5) ?h2 gb402 ?hx 30 (fr := (0, 0)) (d := ?_) ?hg ?h3 ?h4 ?hi ?_; (case hw => first | (with_reducible rfl) | (go_simp; done) | rfl); (case h2 => rfl); (case hx => first | (with_reducible rfl) | (go_simp; done) | rfl); (case hg => (with_reducible repeat (first | refine blk_drewN ?_ _ | refine blk_drew ?_ | refine blk_alloc ?_ _)); with_reducible exact BK402.out); (case h3 => exact Try.underlying30); (case h4 => rfl); (case hi => kernel_rfl)) | ((with_reducible refine gate_load (t := 32) (x := .tmp 7) rfl ?_); refine load_row_g (cs := ?_) ?hw 32 (.tmp 7) ?h2 gb403 ?hx 32 (fr := (0, 0)) (d := ?_) ?hg ?h3 ?h4 ?hi ?_; (case hw => first | (with_reducible rfl) | (go_simp; done) | rfl); (case h2 => rfl); (case hx => first | (with_reducible rfl) | (go_simp; done) | rfl); (case hg => (with_reducible repeat (first | refine blk_drewN ?_ _ | refine blk_drew ?_ | refine blk_alloc ?_ _)); with_reducible exact BK403.out); (case h3 => exact Try.underlying32); (case h4 => rfl); (case hi => kernel_rfl)) | (go_at_call 17; (with_reducible refine (r21_Owner.calls kj4 a0_0 a0_1 a0_2 a0_3 a0_4 a0_5 a0_6 a0_7 a0_8 a0_9 _ _ l0_10 t408 t416 _ ?side1 ?side2 A45.out).mono ?_); (case side1 => repeat (first | exact (Kd.C_below HR0_10.out HB.out) | (with_reducible refine Kd.C_alloc ?_ _) | (with_reducible refine Kd.C_drewN ?_ _) | (with_reducible refine Kd.C_drew ?_))); (case side2 => exact HC0_10.out); rintro e w94 ⟨rfl, hb⟩; have n0_ := Aside0.mk (blk_below (by (with_reducible repeat (first | refine blk_drewN ?_ _ | refine blk_drew ?_ | refine blk_alloc ?_ _)); exact BK401.out) hb); have n1_ := Aside0.mk (blk_below (by (with_reducible repeat (first | refine blk_drewN ?_ _ | refine blk_drew ?_ | refine blk_alloc ?_ _)); exact BK402.out) hb); have n2_ := Aside0.mk (blk_below (by (with_reducible repeat (first | refine blk_drewN ?_ _ | refine blk_drew ?_ | refine blk_alloc ?_ _)); exact BK403.out) hb); have n3_ := Aside0.mk (blk_below (by (with_reducible repeat (first | refine blk_drewN ?_ _ | refine blk_drew ?_ | refine blk_alloc ?_ _)); exact BK412.out) hb); have n4_ := Aside0.mk (below_step (by repeat (first | (with_reducible first | exact HB.out | apply below_alloc | apply pw_below_drewN | apply below_drew1 | refine below_set ?_ GE401.out | refine below_set ?_ GE402.out | refine below_set ?_ GE403.out | refine below_set ?_ GE412.out) | exact HB.out)) hb); clear BK401; clear BK402; clear BK403; clear BK412; clear HB; have BK401 := n0_; have BK402 := n1_; have BK403 := n2_; have BK412 := n3_; have HB := n4_; clear n0_ n1_ n2_ n3_ n4_; (try clear hb); obtain ⟨hcz95_0, hcz95_1, hcz95_2, hcz95_3⟩ := cells_4 BK412.out; obtain ⟨hfz95_0, hfz95_1, hfz95_2, hfz95_3⟩ := frozen_4 BK412.out; have hall15_ := cells_6 BK403.out; have hall16_ := frozen_6 BK403.out; have hall17_ := cells_24 BK402.out; have hall18_ := frozen_24 BK402.out))
            go_meet
            case rel => exact ⟨_, (true), (by first | rfl | (simp; done) | (simp [*]; done)), H', ⟨by have := HJ4.out; first | omega | exact Nat.le_refl _⟩, ⟨by (with_reducible repeat (first | refine blk_drewN ?_ _ | refine blk_drew ?_ | refine blk_alloc ?_ _)); exact BK401.out⟩, ⟨by (with_reducible repeat (first | refine blk_drewN ?_ _ | refine blk_drew ?_ | refine blk_alloc ?_ _)); exact BK402.out⟩, ⟨by (with_reducible repeat (first | refine blk_drewN ?_ _ | refine blk_drew ?_ | refine blk_alloc ?_ _)); exact BK403.out⟩, ⟨by (with_reducible repeat (first | refine blk_drewN ?_ _ | refine blk_drew ?_ | refine blk_alloc ?_ _)); exact BK412.out⟩, ⟨by repeat (first | (with_reducible first | exact HB.out | apply below_alloc | apply pw_below_drewN | apply below_drew1 | refine below_set ?_ GE401.out | refine below_set ?_ GE402.out | refine below_set ?_ GE403.out | refine below_set ?_ GE412.out) | exact HB.out)⟩⟩
          ·rw [if_neg c48] at H
           have c48b0 : (t409 == a1_7) = false := beq_eq_false_iff_ne.mpr c48
           have c48b1 : (t409 != a1_7) = true := bne_iff_ne.mpr c48
           have H' := Aside0.mk H
           clear H
           have hnb98 := NB402_401.out
           have hnc98 := NB401_402.out
           have hnb99 := NB402_403.out
           have hnc99 := NB403_402.out
           have hnb100 := NB402_412.out
           have hnc100 := NB412_402.out
           obtain ⟨hcz101_0, hcz101_1, hcz101_2, hcz101_3, hcz101_4, hcz101_5, hcz101_6, hcz101_7, hcz101_8, hcz101_9, hcz101_10, hcz101_11, hcz101_12, hcz101_13, hcz101_14, hcz101_15, hcz101_16, hcz101_17, hcz101_18, hcz101_19, hcz101_20, hcz101_21, hcz101_22, hcz101_23⟩ := cells_24 BK402.out
           obtain ⟨hfz101_0, hfz101_1, hfz101_2, hfz101_3, hfz101_4, hfz101_5, hfz101_6, hfz101_7, hfz101_8, hfz101_9, hfz101_10, hfz101_11, hfz101_12, hfz101_13, hfz101_14, hfz101_15, hfz101_16, hfz101_17, hfz101_18, hfz101_19, hfz101_20, hfz101_21, hfz101_22, hfz101_23⟩ := frozen_24 BK402.out
           have hnb102 := NB412_401.out
           have hnc102 := NB401_412.out
           have hnb103 := NB412_403.out
           have hnc103 := NB403_412.out
           have hcz104_0 : w38.cell? ⟨gb412, 0, none⟩ = some (.int .i64 t407) := (blk_cell BK412.out 0).trans rfl
           have hcz104_1 : w38.cell? ⟨gb412, 1, none⟩ = some (.int .i64 t408) := (blk_cell BK412.out 1).trans rfl
           have hcz104_2 : w38.cell? ⟨gb412, 2, none⟩ = some (.int .i64 t409) := (blk_cell BK412.out 2).trans rfl
           have hcz104_3 : w38.cell? ⟨gb412, 3, none⟩ = some (.string t410) := (blk_cell BK412.out 3).trans rfl
           have hfz104_0 := blk_frozen BK412.out 0
           have hfz104_1 := blk_frozen BK412.out 1
           have hfz104_2 := blk_frozen BK412.out 2
           have hfz104_3 := blk_frozen BK412.out 3
           have hnb105 := NB401_403.out
           have hnc105 := NB403_401.out
           obtain ⟨hcz106_0, hcz106_1, hcz106_2, hcz106_3, hcz106_4, hcz106_5, hcz106_6, hcz106_7, hcz106_8, hcz106_9, hcz106_10⟩ := cells_11 BK401.out
           obtain ⟨hfz106_0, hfz106_1, hfz106_2, hfz106_3, hfz106_4, hfz106_5, hfz106_6, hfz106_7, hfz106_8, hfz106_9, hfz106_10⟩ := frozen_11 BK401.out
           go_wp2_with (first | ((with_reducible refine gate_load (t := 24) (x := .tmp 4) rfl ?_); refine load_row_g (cs := ?_) ?hw 24 (.tmp 4) ?h2 gb401 ?hx 24 (fr := (0, 0)) (d := ?_) ?hg ?h3 ?h4 ?hi ?_; (case hw => first | (with_reducible rfl) | (go_simp; done) | rfl); (case h2 => rfl); (case hx => first | (with_reducible rfl) | (go_simp; done) | rfl); (case hg => (with_reducible repeat (first | refine blk_drewN ?_ _ | refine blk_drew ?_ | refine blk_alloc ?_ _)); with_reducible exact BK401.out); (case h3 => exact Try.underlying24); (case h4 => rfl); (case hi => kernel_rfl)) | ((with_reducible refine gate_load (t := 30) (x := .tmp 5) rfl ?_); refine load_row_g (cs := ?_) ?hw 30 (.tmp 5) ?h2 gb402 ?hx 30 (fr := (0, 0)) (d := ?_) ?hg ?h3 ?h4 ?hi ?_; (case hw => first | (with_reducible rfl) | (go_simp; done) | rfl); (case h2 => rfl); (case hx => first | (with_reducible rfl) | (go_simp; done) | rfl); (case hg => (with_reducible repeat (first | refine blk_drewN ?_ _ | refine blk_drew ?_ | refine blk_alloc ?_ _)); with_reducible exact BK402.out); (case h3 => exact Try.underlying30); (case h4 => rfl); (case hi => kernel_rfl)) | ((with_reducible refine gate_load (t := 32) (x := .tmp 7) rfl ?_); refine load_row_g (cs := ?_) ?hw 32 (.tmp 7) ?h2 gb403 ?hx 32 (fr := (0, 0)) (d := ?_) ?hg ?h3 ?h4 ?hi ?_; (case hw => first | (with_reducible rfl) | (go_simp; done) | rfl); (case h2 => rfl); (case hx => first | (with_reducible rfl) | (go_simp; done) | rfl); (case hg => (with_reducible repeat (first | refine blk_drewN ?_ _ | refine blk_drew ?_ | refine blk_alloc ?_ _)); with_reducible exact BK403.out); (case h3 => exact Try.underlying32); (case h4 => rfl); (case hi => kernel_rfl)) | (go_at_call 17; (with_reducible refine (r21_Owner.calls kj4 a0_0 a0_1 a0_2 a0_3 a0_4 a0_5 a0_6 a0_7 a0_8 a0_9 _ _ l0_10 t408 t416 _ ?side1 ?side2 A45.out).mono ?_); (case side1 => repeat (first | exact (Kd.C_below HR0_10.out HB.out) | (with_reducible refine Kd.C_alloc ?_ _) | (with_reducible refine Kd.C_drewN ?_ _) | (with_reducible refine Kd.C_drew ?_))); (case side2 => exact HC0_10.out); rintro e w107 ⟨rfl, hb⟩; have n0_ := Aside0.mk (blk_below (by (with_reducible repeat (first | refine blk_drewN ?_ _ | refine blk_drew ?_ | refine blk_alloc ?_ _)); exact BK401.out) hb); have n1_ := Aside0.mk (blk_below (by (with_reducible repeat (first | refine blk_drewN ?_ _ | refine blk_drew ?_ | refine blk_alloc ?_ _)); exact BK402.out) hb); have n2_ := Aside0.mk (blk_below (by (with_reducible repeat (first | refine blk_drewN ?_ _ | refine blk_drew ?_ | refine blk_alloc ?_ _)); exact BK403.out) hb); have n3_ := Aside0.mk (blk_below (by (with_reducible repeat (first | refine blk_drewN ?_ _ | refine blk_drew ?_ | refine blk_alloc ?_ _)); exact BK412.out) hb); have n4_ := Aside0.mk (below_step (by repeat (first | (with_reducible first | exact HB.out | apply below_alloc | apply pw_below_drewN | apply below_drew1 | refine below_set ?_ GE401.out | refine below_set ?_ GE402.out | refine below_set ?_ GE403.out | refine below_set ?_ GE412.out) | exact HB.out)) hb); clear BK401; clear BK402; clear BK403; clear BK412; clear HB; have BK401 := n0_; have BK402 := n1_; have BK403 := n2_; have BK412 := n3_; have HB := n4_; clear n0_ n1_ n2_ n3_ n4_; (try clear hb); obtain ⟨hcz108_0, hcz108_1, hcz108_2, hcz108_3⟩ := cells_4 BK412.out; obtain ⟨hfz108_0, hfz108_1, hfz108_2, hfz108_3⟩ := frozen_4 BK412.out; have hall19_ := cells_6 BK403.out; have hall20_ := frozen_6 BK403.out; have hall21_ := cells_24 BK402.out; have hall22_ := frozen_24 BK402.out))
           go_meet
           case rel => exact ⟨_, (true), (by first | rfl | (simp; done) | (simp [*]; done)), H', ⟨by have := HJ4.out; first | omega | exact Nat.le_refl _⟩, ⟨by (with_reducible repeat (first | refine blk_drewN ?_ _ | refine blk_drew ?_ | refine blk_alloc ?_ _)); exact BK401.out⟩, ⟨by (with_reducible repeat (first | refine blk_drewN ?_ _ | refine blk_drew ?_ | refine blk_alloc ?_ _)); exact BK402.out⟩, ⟨by (with_reducible repeat (first | refine blk_drewN ?_ _ | refine blk_drew ?_ | refine blk_alloc ?_ _)); exact BK403.out⟩, ⟨by (with_reducible repeat (first | refine blk_drewN ?_ _ | refine blk_drew ?_ | refine blk_alloc ?_ _)); exact BK412.out⟩, ⟨by repeat (first | (with_reducible first | exact HB.out | apply below_alloc | apply pw_below_drewN | apply below_drew1 | refine below_set ?_ GE401.out | refine below_set ?_ GE402.out | refine below_set ?_ GE403.out | refine below_set ?_ GE412.out) | exact HB.out)⟩⟩
         ·rw [if_neg c47] at H
          have c47b0 : (t408 == (wrap64 (a3_3 - 1))) = false := beq_eq_false_iff_ne.mpr c47
          have c47b1 : (t408 != (wrap64 (a3_3 - 1))) = true := bne_iff_ne.mpr c47
          have H' := Aside0.mk H
          clear H
          have hnb111 := NB402_401.out
          have hnc111 := NB401_402.out
          have hnb112 := NB402_403.out
          have hnc112 := NB403_402.out
          have hnb113 := NB402_412.out
          have hnc113 := NB412_402.out
          obtain ⟨hcz114_0, hcz114_1, hcz114_2, hcz114_3, hcz114_4, hcz114_5, hcz114_6, hcz114_7, hcz114_8, hcz114_9, hcz114_10, hcz114_11, hcz114_12, hcz114_13, hcz114_14, hcz114_15, hcz114_16, hcz114_17, hcz114_18, hcz114_19, hcz114_20, hcz114_21, hcz114_22, hcz114_23⟩ := cells_24 BK402.out
          obtain ⟨hfz114_0, hfz114_1, hfz114_2, hfz114_3, hfz114_4, hfz114_5, hfz114_6, hfz114_7, hfz114_8, hfz114_9, hfz114_10, hfz114_11, hfz114_12, hfz114_13, hfz114_14, hfz114_15, hfz114_16, hfz114_17, hfz114_18, hfz114_19, hfz114_20, hfz114_21, hfz114_22, hfz114_23⟩ := frozen_24 BK402.out
          have hnb115 := NB412_401.out
          have hnc115 := NB401_412.out
          have hnb116 := NB412_403.out
          have hnc116 := NB403_412.out
          have hcz117_0 : w38.cell? ⟨gb412, 0, none⟩ = some (.int .i64 t407) := (blk_cell BK412.out 0).trans rfl
          have hcz117_1 : w38.cell? ⟨gb412, 1, none⟩ = some (.int .i64 t408) := (blk_cell BK412.out 1).trans rfl
          have hcz117_2 : w38.cell? ⟨gb412, 2, none⟩ = some (.int .i64 t409) := (blk_cell BK412.out 2).trans rfl
          have hcz117_3 : w38.cell? ⟨gb412, 3, none⟩ = some (.string t410) := (blk_cell BK412.out 3).trans rfl
          have hfz117_0 := blk_frozen BK412.out 0
          have hfz117_1 := blk_frozen BK412.out 1
          have hfz117_2 := blk_frozen BK412.out 2
          have hfz117_3 := blk_frozen BK412.out 3
          have hnb118 := NB401_403.out
          have hnc118 := NB403_401.out
          obtain ⟨hcz119_0, hcz119_1, hcz119_2, hcz119_3, hcz119_4, hcz119_5, hcz119_6, hcz119_7, hcz119_8, hcz119_9, hcz119_10⟩ := cells_11 BK401.out
          obtain ⟨hfz119_0, hfz119_1, hfz119_2, hfz119_3, hfz119_4, hfz119_5, hfz119_6, hfz119_7, hfz119_8, hfz119_9, hfz119_10⟩ := frozen_11 BK401.out
          go_wp2_with (first | ((with_reducible refine gate_load (t := 24) (x := .tmp 4) rfl ?_); refine load_row_g (cs := ?_) ?hw 24 (.tmp 4) ?h2 gb401 ?hx 24 (fr := (0, 0)) (d := ?_) ?hg ?h3 ?h4 ?hi ?_; (case hw => first | (with_reducible rfl) | (go_simp; done) | rfl); (case h2 => rfl); (case hx => first | (with_reducible rfl) | (go_simp; done) | rfl); (case hg => (with_reducible repeat (first | refine blk_drewN ?_ _ | refine blk_drew ?_ | refine blk_alloc ?_ _)); with_reducible exact BK401.out); (case h3 => exact Try.underlying24); (case h4 => rfl); (case hi => kernel_rfl)) | ((with_reducible refine gate_load (t := 30) (x := .tmp 5) rfl ?_); refine load_row_g (cs := ?_) ?hw 30 (.tmp 5) ?h2 gb402 ?hx 30 (fr := (0, 0)) (d := ?_) ?hg ?h3 ?h4 ?hi ?_; (case hw => first | (with_reducible rfl) | (go_simp; done) | rfl); (case h2 => rfl); (case hx => first | (with_reducible rfl) | (go_simp; done) | rfl); (case hg => (with_reducible repeat (first | refine blk_drewN ?_ _ | refine blk_drew ?_ | refine blk_alloc ?_ _)); with_reducible exact BK402.out); (case h3 => exact Try.underlying30); (case h4 => rfl); (case hi => kernel_rfl)) | ((with_reducible refine gate_load (t := 32) (x := .tmp 7) rfl ?_); refine load_row_g (cs := ?_) ?hw 32 (.tmp 7) ?h2 gb403 ?hx 32 (fr := (0, 0)) (d := ?_) ?hg ?h3 ?h4 ?hi ?_; (case hw => first | (with_reducible rfl) | (go_simp; done) | rfl); (case h2 => rfl); (case hx => first | (with_reducible rfl) | (go_simp; done) | rfl); (case hg => (with_reducible repeat (first | refine blk_drewN ?_ _ | refine blk_drew ?_ | refine blk_alloc ?_ _)); with_reducible exact BK403.out); (case h3 => exact Try.underlying32); (case h4 => rfl); (case hi => kernel_rfl)) | (go_at_call 17; (with_reducible refine (r21_Owner.calls kj4 a0_0 a0_1 a0_2 a0_3 a0_4 a0_5 a0_6 a0_7 a0_8 a0_9 _ _ l0_10 t408 t416 _ ?side1 ?side2 A45.out).mono ?_); (case side1 => repeat (first | exact (Kd.C_below HR0_10.out HB.out) | (with_reducible refine Kd.C_alloc ?_ _) | (with_reducible refine Kd.C_drewN ?_ _) | (with_reducible refine Kd.C_drew ?_))); (case side2 => exact HC0_10.out); rintro e w120 ⟨rfl, hb⟩; have n0_ := Aside0.mk (blk_below (by (with_reducible repeat (first | refine blk_drewN ?_ _ | refine blk_drew ?_ | refine blk_alloc ?_ _)); exact BK401.out) hb); have n1_ := Aside0.mk (blk_below (by (with_reducible repeat (first | refine blk_drewN ?_ _ | refine blk_drew ?_ | refine blk_alloc ?_ _)); exact BK402.out) hb); have n2_ := Aside0.mk (blk_below (by (with_reducible repeat (first | refine blk_drewN ?_ _ | refine blk_drew ?_ | refine blk_alloc ?_ _)); exact BK403.out) hb); have n3_ := Aside0.mk (blk_below (by (with_reducible repeat (first | refine blk_drewN ?_ _ | refine blk_drew ?_ | refine blk_alloc ?_ _)); exact BK412.out) hb); have n4_ := Aside0.mk (below_step (by repeat (first | (with_reducible first | exact HB.out | apply below_alloc | apply pw_below_drewN | apply below_drew1 | refine below_set ?_ GE401.out | refine below_set ?_ GE402.out | refine below_set ?_ GE403.out | refine below_set ?_ GE412.out) | exact HB.out)) hb); clear BK401; clear BK402; clear BK403; clear BK412; clear HB; have BK401 := n0_; have BK402 := n1_; have BK403 := n2_; have BK412 := n3_; have HB := n4_; clear n0_ n1_ n2_ n3_ n4_; (try clear hb); obtain ⟨hcz121_0, hcz121_1, hcz121_2, hcz121_3⟩ := cells_4 BK412.out; obtain ⟨hfz121_0, hfz121_1, hfz121_2, hfz121_3⟩ := frozen_4 BK412.out; have hall23_ := cells_6 BK403.out; have hall24_ := frozen_6 BK403.out))
          go_meet
          case rel => exact ⟨_, (true), (by first | rfl | (simp; done) | (simp [*]; done)), H', ⟨by have := HJ4.out; first | omega | exact Nat.le_refl _⟩, ⟨by (with_reducible repeat (first | refine blk_drewN ?_ _ | refine blk_drew ?_ | refine blk_alloc ?_ _)); exact BK401.out⟩, ⟨by (with_reducible repeat (first | refine blk_drewN ?_ _ | refine blk_drew ?_ | refine blk_alloc ?_ _)); exact BK402.out⟩, ⟨by (with_reducible repeat (first | refine blk_drewN ?_ _ | refine blk_drew ?_ | refine blk_alloc ?_ _)); exact BK403.out⟩, ⟨by (with_reducible repeat (first | refine blk_drewN ?_ _ | refine blk_drew ?_ | refine blk_alloc ?_ _)); exact BK412.out⟩, ⟨by repeat (first | (with_reducible first | exact HB.out | apply below_alloc | apply pw_below_drewN | apply below_drew1 | refine below_set ?_ GE401.out | refine below_set ?_ GE402.out | refine below_set ?_ GE403.out | refine below_set ?_ GE412.out) | exact HB.out)⟩⟩
        ·rw [if_neg c46] at H
         have c46b0 : (t416 == a2) = false := beq_eq_false_iff_ne.mpr c46
         have c46b1 : (t416 != a2) = true := bne_iff_ne.mpr c46
         have H' := Aside0.mk H
         clear H
         have hnb123 := NB402_401.out
         have hnc123 := NB401_402.out
         have hnb124 := NB402_403.out
         have hnc124 := NB403_402.out
         have hnb125 := NB402_412.out
         have hnc125 := NB412_402.out
         obtain ⟨hcz126_0, hcz126_1, hcz126_2, hcz126_3, hcz126_4, hcz126_5, hcz126_6, hcz126_7, hcz126_8, hcz126_9, hcz126_10, hcz126_11, hcz126_12, hcz126_13, hcz126_14, hcz126_15, hcz126_16, hcz126_17, hcz126_18, hcz126_19, hcz126_20, hcz126_21, hcz126_22, hcz126_23⟩ := cells_24 BK402.out
         obtain ⟨hfz126_0, hfz126_1, hfz126_2, hfz126_3, hfz126_4, hfz126_5, hfz126_6, hfz126_7, hfz126_8, hfz126_9, hfz126_10, hfz126_11, hfz126_12, hfz126_13, hfz126_14, hfz126_15, hfz126_16, hfz126_17, hfz126_18, hfz126_19, hfz126_20, hfz126_21, hfz126_22, hfz126_23⟩ := frozen_24 BK402.out
         have hnb127 := NB412_401.out
         have hnc127 := NB401_412.out
         have hnb128 := NB412_403.out
         have hnc128 := NB403_412.out
         have hcz129_0 : w38.cell? ⟨gb412, 0, none⟩ = some (.int .i64 t407) := (blk_cell BK412.out 0).trans rfl
         have hcz129_1 : w38.cell? ⟨gb412, 1, none⟩ = some (.int .i64 t408) := (blk_cell BK412.out 1).trans rfl
         have hcz129_2 : w38.cell? ⟨gb412, 2, none⟩ = some (.int .i64 t409) := (blk_cell BK412.out 2).trans rfl
         have hcz129_3 : w38.cell? ⟨gb412, 3, none⟩ = some (.string t410) := (blk_cell BK412.out 3).trans rfl
         have hfz129_0 := blk_frozen BK412.out 0
         have hfz129_1 := blk_frozen BK412.out 1
         have hfz129_2 := blk_frozen BK412.out 2
         have hfz129_3 := blk_frozen BK412.out 3
         have hnb130 := NB401_403.out
         have hnc130 := NB403_401.out
         obtain ⟨hcz131_0, hcz131_1, hcz131_2, hcz131_3, hcz131_4, hcz131_5, hcz131_6, hcz131_7, hcz131_8, hcz131_9, hcz131_10⟩ := cells_11 BK401.out
         obtain ⟨hfz131_0, hfz131_1, hfz131_2, hfz131_3, hfz131_4, hfz131_5, hfz131_6, hfz131_7, hfz131_8, hfz131_9, hfz131_10⟩ := frozen_11 BK401.out
         go_wp2_with (first | ((with_reducible refine gate_load (t := 24) (x := .tmp 4) rfl ?_); refine load_row_g (cs := ?_) ?hw 24 (.tmp 4) ?h2 gb401 ?hx 24 (fr := (0, 0)) (d := ?_) ?hg ?h3 ?h4 ?hi ?_; (case hw => first | (with_reducible rfl) | (go_simp; done) | rfl); (case h2 => rfl); (case hx => first | (with_reducible rfl) | (go_simp; done) | rfl); (case hg => (with_reducible repeat (first | refine blk_drewN ?_ _ | refine blk_drew ?_ | refine blk_alloc ?_ _)); with_reducible exact BK401.out); (case h3 => exact Try.underlying24); (case h4 => rfl); (case hi => kernel_rfl)) | ((with_reducible refine gate_load (t := 30) (x := .tmp 5) rfl ?_); refine load_row_g (cs := ?_) ?hw 30 (.tmp 5) ?h2 gb402 ?hx 30 (fr := (0, 0)) (d := ?_) ?hg ?h3 ?h4 ?hi ?_; (case hw => first | (with_reducible rfl) | (go_simp; done) | rfl); (case h2 => rfl); (case hx => first | (with_reducible rfl) | (go_simp; done) | rfl); (case hg => (with_reducible repeat (first | refine blk_drewN ?_ _ | refine blk_drew ?_ | refine blk_alloc ?_ _)); with_reducible exact BK402.out); (case h3 => exact Try.underlying30); (case h4 => rfl); (case hi => kernel_rfl)) | ((with_reducible refine gate_load (t := 32) (x := .tmp 7) rfl ?_); refine load_row_g (cs := ?_) ?hw 32 (.tmp 7) ?h2 gb403 ?hx 32 (fr := (0, 0)) (d := ?_) ?hg ?h3 ?h4 ?hi ?_; (case hw => first | (with_reducible rfl) | (go_simp; done) | rfl); (case h2 => rfl); (case hx => first | (with_reducible rfl) | (go_simp; done) | rfl); (case hg => (with_reducible repeat (first | refine blk_drewN ?_ _ | refine blk_drew ?_ | refine blk_alloc ?_ _)); with_reducible exact BK403.out); (case h3 => exact Try.underlying32); (case h4 => rfl); (case hi => kernel_rfl)) | (go_at_call 17; (with_reducible refine (r21_Owner.calls kj4 a0_0 a0_1 a0_2 a0_3 a0_4 a0_5 a0_6 a0_7 a0_8 a0_9 _ _ l0_10 t408 t416 _ ?side1 ?side2 A45.out).mono ?_); (case side1 => repeat (first | exact (Kd.C_below HR0_10.out HB.out) | (with_reducible refine Kd.C_alloc ?_ _) | (with_reducible refine Kd.C_drewN ?_ _) | (with_reducible refine Kd.C_drew ?_))); (case side2 => exact HC0_10.out); rintro e w132 ⟨rfl, hb⟩; have n0_ := Aside0.mk (blk_below (by (with_reducible repeat (first | refine blk_drewN ?_ _ | refine blk_drew ?_ | refine blk_alloc ?_ _)); exact BK401.out) hb); have n1_ := Aside0.mk (blk_below (by (with_reducible repeat (first | refine blk_drewN ?_ _ | refine blk_drew ?_ | refine blk_alloc ?_ _)); exact BK402.out) hb); have n2_ := Aside0.mk (blk_below (by (with_reducible repeat (first | refine blk_drewN ?_ _ | refine blk_drew ?_ | refine blk_alloc ?_ _)); exact BK403.out) hb); have n3_ := Aside0.mk (blk_below (by (with_reducible repeat (first | refine blk_drewN ?_ _ | refine blk_drew ?_ | refine blk_alloc ?_ _)); exact BK412.out) hb); have n4_ := Aside0.mk (below_step (by repeat (first | (with_reducible first | exact HB.out | apply below_alloc | apply pw_below_drewN | apply below_drew1 | refine below_set ?_ GE401.out | refine below_set ?_ GE402.out | refine below_set ?_ GE403.out | refine below_set ?_ GE412.out) | exact HB.out)) hb); clear BK401; clear BK402; clear BK403; clear BK412; clear HB; have BK401 := n0_; have BK402 := n1_; have BK403 := n2_; have BK412 := n3_; have HB := n4_; clear n0_ n1_ n2_ n3_ n4_; (try clear hb)))
         go_meet
         case rel => exact ⟨_, (true), (by first | rfl | (simp; done) | (simp [*]; done)), H', ⟨by have := HJ4.out; first | omega | exact Nat.le_refl _⟩, ⟨by (with_reducible repeat (first | refine blk_drewN ?_ _ | refine blk_drew ?_ | refine blk_alloc ?_ _)); exact BK401.out⟩, ⟨by (with_reducible repeat (first | refine blk_drewN ?_ _ | refine blk_drew ?_ | refine blk_alloc ?_ _)); exact BK402.out⟩, ⟨by (with_reducible repeat (first | refine blk_drewN ?_ _ | refine blk_drew ?_ | refine blk_alloc ?_ _)); exact BK403.out⟩, ⟨by (with_reducible repeat (first | refine blk_drewN ?_ _ | refine blk_drew ?_ | refine blk_alloc ?_ _)); exact BK412.out⟩, ⟨by repeat (first | (with_reducible first | exact HB.out | apply below_alloc | apply pw_below_drewN | apply below_drew1 | refine below_set ?_ GE401.out | refine below_set ?_ GE402.out | refine below_set ?_ GE403.out | refine below_set ?_ GE412.out) | exact HB.out)⟩⟩
       ·rw [if_neg c44] at H
        have c44b0 : (t407 == a2) = false := beq_eq_false_iff_ne.mpr c44
        have c44b1 : (t407 != a2) = true := bne_iff_ne.mpr c44
        have H' := Aside0.mk H
        clear H
        have hnb133 := NB402_401.out
        have hnc133 := NB401_402.out
        have hnb134 := NB402_403.out
        have hnc134 := NB403_402.out
        have hnb135 := NB402_412.out
        have hnc135 := NB412_402.out
        obtain ⟨hcz136_0, hcz136_1, hcz136_2, hcz136_3, hcz136_4, hcz136_5, hcz136_6, hcz136_7, hcz136_8, hcz136_9, hcz136_10, hcz136_11, hcz136_12, hcz136_13, hcz136_14, hcz136_15, hcz136_16, hcz136_17, hcz136_18, hcz136_19, hcz136_20, hcz136_21, hcz136_22, hcz136_23⟩ := cells_24 BK402.out
        obtain ⟨hfz136_0, hfz136_1, hfz136_2, hfz136_3, hfz136_4, hfz136_5, hfz136_6, hfz136_7, hfz136_8, hfz136_9, hfz136_10, hfz136_11, hfz136_12, hfz136_13, hfz136_14, hfz136_15, hfz136_16, hfz136_17, hfz136_18, hfz136_19, hfz136_20, hfz136_21, hfz136_22, hfz136_23⟩ := frozen_24 BK402.out
        have hnb137 := NB412_401.out
        have hnc137 := NB401_412.out
        have hnb138 := NB412_403.out
        have hnc138 := NB403_412.out
        have hcz139_0 : w38.cell? ⟨gb412, 0, none⟩ = some (.int .i64 t407) := (blk_cell BK412.out 0).trans rfl
        have hcz139_1 : w38.cell? ⟨gb412, 1, none⟩ = some (.int .i64 t408) := (blk_cell BK412.out 1).trans rfl
        have hcz139_2 : w38.cell? ⟨gb412, 2, none⟩ = some (.int .i64 t409) := (blk_cell BK412.out 2).trans rfl
        have hcz139_3 : w38.cell? ⟨gb412, 3, none⟩ = some (.string t410) := (blk_cell BK412.out 3).trans rfl
        have hfz139_0 := blk_frozen BK412.out 0
        have hfz139_1 := blk_frozen BK412.out 1
        have hfz139_2 := blk_frozen BK412.out 2
        have hfz139_3 := blk_frozen BK412.out 3
        go_wp2
        go_meet
        case rel => exact ⟨_, (true), (by first | rfl | (simp; done) | (simp [*]; done)), H', ⟨by have := HJ4.out; first | omega | exact Nat.le_refl _⟩, ⟨by (with_reducible repeat (first | refine blk_drewN ?_ _ | refine blk_drew ?_ | refine blk_alloc ?_ _)); exact BK401.out⟩, ⟨by (with_reducible repeat (first | refine blk_drewN ?_ _ | refine blk_drew ?_ | refine blk_alloc ?_ _)); exact BK402.out⟩, ⟨by (with_reducible repeat (first | refine blk_drewN ?_ _ | refine blk_drew ?_ | refine blk_alloc ?_ _)); exact BK403.out⟩, ⟨by (with_reducible repeat (first | refine blk_drewN ?_ _ | refine blk_drew ?_ | refine blk_alloc ?_ _)); exact BK412.out⟩, ⟨by repeat (first | (with_reducible first | exact HB.out | apply below_alloc | apply pw_below_drewN | apply below_drew1 | refine below_set ?_ GE401.out | refine below_set ?_ GE402.out | refine below_set ?_ GE403.out | refine below_set ?_ GE412.out) | exact HB.out)⟩⟩
     case rest =>
      clear HC23
      try clear c1
      try clear p2
      try clear c4
      try clear c5
      try clear c6
      try clear p6
      try clear c7
      try clear c8
      try clear c9
      try clear c10
      try clear c11
      try clear c12
      try clear c13
      try clear c44
      try clear c44b0
      try clear c44b1
      try clear c46
      try clear c46b0
      try clear c46b1
      try clear c47
      try clear c47b0
      try clear c47b1
      try clear c48
      try clear c48b0
      try clear c48b1
      try clear c49
      try clear c49b0
      try clear c49b1
      try clear c51
      try clear c51b0
      try clear c59
      try clear p64
      try clear c68
      try clear c69
      try clear c70
      try clear c72
      try clear c73
      try clear c75
      try clear c85
      try clear c86
      try clear c87
      try clear c89
      try clear c90
      try clear c92
      try clear c98
      try clear c99
      try clear c100
      try clear c102
      try clear c103
      try clear c105
      try clear c111
      try clear c112
      try clear c113
      try clear c115
      try clear c116
      try clear c118
      try clear c123
      try clear c124
      try clear c125
      try clear c127
      try clear c128
      try clear c130
      try clear c133
      try clear c134
      try clear c135
      try clear c137
      try clear c138
      try clear hcz101_0
      try clear hcz101_1
      try clear hcz101_10
      try clear hcz101_11
      try clear hcz101_12
      try clear hcz101_13
      try clear hcz101_14
      try clear hcz101_15
      try clear hcz101_16
      try clear hcz101_17
      try clear hcz101_18
      try clear hcz101_19
      try clear hcz101_2
      try clear hcz101_20
      try clear hcz101_21
      try clear hcz101_22
      try clear hcz101_23
      try clear hcz101_3
      try clear hcz101_4
      try clear hcz101_5
      try clear hcz101_6
      try clear hcz101_7
      try clear hcz101_8
      try clear hcz101_9
      try clear hcz104_0
      try clear hcz104_1
      try clear hcz104_2
      try clear hcz104_3
      try clear hcz106_0
      try clear hcz106_1
      try clear hcz106_10
      try clear hcz106_2
      try clear hcz106_3
      try clear hcz106_4
      try clear hcz106_5
      try clear hcz106_6
      try clear hcz106_7
      try clear hcz106_8
      try clear hcz106_9
      try clear hcz108_0
      try clear hcz108_1
      try clear hcz108_2
      try clear hcz108_3
      try clear hcz109_0
      try clear hcz109_1
      try clear hcz109_2
      try clear hcz109_3
      try clear hcz109_4
      try clear hcz109_5
      try clear hcz110_0
      try clear hcz110_1
      try clear hcz110_10
      try clear hcz110_11
      try clear hcz110_12
      try clear hcz110_13
      try clear hcz110_14
      try clear hcz110_15
      try clear hcz110_16
      try clear hcz110_17
      try clear hcz110_18
      try clear hcz110_19
      try clear hcz110_2
      try clear hcz110_20
      try clear hcz110_21
      try clear hcz110_22
      try clear hcz110_23
      try clear hcz110_3
      try clear hcz110_4
      try clear hcz110_5
      try clear hcz110_6
      try clear hcz110_7
      try clear hcz110_8
      try clear hcz110_9
      try clear hcz114_0
      try clear hcz114_1
      try clear hcz114_10
      try clear hcz114_11
      try clear hcz114_12
      try clear hcz114_13
      try clear hcz114_14
      try clear hcz114_15
      try clear hcz114_16
      try clear hcz114_17
      try clear hcz114_18
      try clear hcz114_19
      try clear hcz114_2
      try clear hcz114_20
      try clear hcz114_21
      try clear hcz114_22
      try clear hcz114_23
      try clear hcz114_3
      try clear hcz114_4
      try clear hcz114_5
      try clear hcz114_6
      try clear hcz114_7
      try clear hcz114_8
      try clear hcz114_9
      try clear hcz117_0
      try clear hcz117_1
      try clear hcz117_2
      try clear hcz117_3
      try clear hcz119_0
      try clear hcz119_1
      try clear hcz119_10
      try clear hcz119_2
      try clear hcz119_3
      try clear hcz119_4
      try clear hcz119_5
      try clear hcz119_6
      try clear hcz119_7
      try clear hcz119_8
      try clear hcz119_9
      try clear hcz121_0
      try clear hcz121_1
      try clear hcz121_2
      try clear hcz121_3
      try clear hcz122_0
      try clear hcz122_1
      try clear hcz122_2
      try clear hcz122_3
      try clear hcz122_4
      try clear hcz122_5
      try clear hcz126_0
      try clear hcz126_1
      try clear hcz126_10
      try clear hcz126_11
      try clear hcz126_12
      try clear hcz126_13
      try clear hcz126_14
      try clear hcz126_15
      try clear hcz126_16
      try clear hcz126_17
      try clear hcz126_18
      try clear hcz126_19
      try clear hcz126_2
      try clear hcz126_20
      try clear hcz126_21
      try clear hcz126_22
      try clear hcz126_23
      try clear hcz126_3
      try clear hcz126_4
      try clear hcz126_5
      try clear hcz126_6
      try clear hcz126_7
      try clear hcz126_8
      try clear hcz126_9
      try clear hcz129_0
      try clear hcz129_1
      try clear hcz129_2
      try clear hcz129_3
      try clear hcz131_0
      try clear hcz131_1
      try clear hcz131_10
      try clear hcz131_2
      try clear hcz131_3
      try clear hcz131_4
      try clear hcz131_5
      try clear hcz131_6
      try clear hcz131_7
      try clear hcz131_8
      try clear hcz131_9
      try clear hcz136_0
      try clear hcz136_1
      try clear hcz136_10
      try clear hcz136_11
      try clear hcz136_12
      try clear hcz136_13
      try clear hcz136_14
      try clear hcz136_15
      try clear hcz136_16
      try clear hcz136_17
      try clear hcz136_18
      try clear hcz136_19
      try clear hcz136_2
      try clear hcz136_20
      try clear hcz136_21
      try clear hcz136_22
      try clear hcz136_23
      try clear hcz136_3
      try clear hcz136_4
      try clear hcz136_5
      try clear hcz136_6
      try clear hcz136_7
      try clear hcz136_8
      try clear hcz136_9
      try clear hcz139_0
      try clear hcz139_1
      try clear hcz139_2
      try clear hcz139_3
      try clear hcz60_0
      try clear hcz60_1
      try clear hcz60_10
      try clear hcz60_2
      try clear hcz60_3
      try clear hcz60_4
      try clear hcz60_5
      try clear hcz60_6
      try clear hcz60_7
      try clear hcz60_8
      try clear hcz60_9
      try clear hcz62_0
      try clear hcz62_1
      try clear hcz62_2
      try clear hcz62_3
      try clear hcz63_0
      try clear hcz63_1
      try clear hcz63_2
      try clear hcz63_3
      try clear hcz63_4
      try clear hcz63_5
      try clear hcz64_0
      try clear hcz64_1
      try clear hcz64_10
      try clear hcz64_11
      try clear hcz64_12
      try clear hcz64_13
      try clear hcz64_14
      try clear hcz64_15
      try clear hcz64_16
      try clear hcz64_17
      try clear hcz64_18
      try clear hcz64_19
      try clear hcz64_2
      try clear hcz64_20
      try clear hcz64_21
      try clear hcz64_22
      try clear hcz64_23
      try clear hcz64_3
      try clear hcz64_4
      try clear hcz64_5
      try clear hcz64_6
      try clear hcz64_7
      try clear hcz64_8
      try clear hcz64_9
      try clear hcz65_0
      try clear hcz65_1
      try clear hcz65_10
      try clear hcz65_2
      try clear hcz65_3
      try clear hcz65_4
      try clear hcz65_5
      try clear hcz65_6
      try clear hcz65_7
      try clear hcz65_8
      try clear hcz65_9
      try clear hcz71_0
      try clear hcz71_1
      try clear hcz71_10
      try clear hcz71_11
      try clear hcz71_12
      try clear hcz71_13
      try clear hcz71_14
      try clear hcz71_15
      try clear hcz71_16
      try clear hcz71_17
      try clear hcz71_18
      try clear hcz71_19
      try clear hcz71_2
      try clear hcz71_20
      try clear hcz71_21
      try clear hcz71_22
      try clear hcz71_23
      try clear hcz71_3
      try clear hcz71_4
      try clear hcz71_5
      try clear hcz71_6
      try clear hcz71_7
      try clear hcz71_8
      try clear hcz71_9
      try clear hcz74_0
      try clear hcz74_1
      try clear hcz74_2
      try clear hcz74_3
      try clear hcz76_0
      try clear hcz76_1
      try clear hcz76_10
      try clear hcz76_2
      try clear hcz76_3
      try clear hcz76_4
      try clear hcz76_5
      try clear hcz76_6
      try clear hcz76_7
      try clear hcz76_8
      try clear hcz76_9
      try clear hcz78_0
      try clear hcz78_1
      try clear hcz78_2
      try clear hcz78_3
      try clear hcz79_0
      try clear hcz79_1
      try clear hcz79_2
      try clear hcz79_3
      try clear hcz79_4
      try clear hcz79_5
      try clear hcz80_0
      try clear hcz80_1
      try clear hcz80_10
      try clear hcz80_11
      try clear hcz80_12
      try clear hcz80_13
      try clear hcz80_14
      try clear hcz80_15
      try clear hcz80_16
      try clear hcz80_17
      try clear hcz80_18
      try clear hcz80_19
      try clear hcz80_2
      try clear hcz80_20
      try clear hcz80_21
      try clear hcz80_22
      try clear hcz80_23
      try clear hcz80_3
      try clear hcz80_4
      try clear hcz80_5
      try clear hcz80_6
      try clear hcz80_7
      try clear hcz80_8
      try clear hcz80_9
      try clear hcz81_0
      try clear hcz81_1
      try clear hcz81_10
      try clear hcz81_2
      try clear hcz81_3
      try clear hcz81_4
      try clear hcz81_5
      try clear hcz81_6
      try clear hcz81_7
      try clear hcz81_8
      try clear hcz81_9
      try clear hcz83_0
      try clear hcz83_1
      try clear hcz83_10
      try clear hcz83_2
      try clear hcz83_3
      try clear hcz83_4
      try clear hcz83_5
      try clear hcz83_6
      try clear hcz83_7
      try clear hcz83_8
      try clear hcz83_9
      try clear hcz88_0
      try clear hcz88_1
      try clear hcz88_10
      try clear hcz88_11
      try clear hcz88_12
      try clear hcz88_13
      try clear hcz88_14
      try clear hcz88_15
      try clear hcz88_16
      try clear hcz88_17
      try clear hcz88_18
      try clear hcz88_19
      try clear hcz88_2
      try clear hcz88_20
      try clear hcz88_21
      try clear hcz88_22
      try clear hcz88_23
      try clear hcz88_3
      try clear hcz88_4
      try clear hcz88_5
      try clear hcz88_6
      try clear hcz88_7
      try clear hcz88_8
      try clear hcz88_9
      try clear hcz91_0
      try clear hcz91_1
      try clear hcz91_2
      try clear hcz91_3
      try clear hcz93_0
      try clear hcz93_1
      try clear hcz93_10
      try clear hcz93_2
      try clear hcz93_3
      try clear hcz93_4
      try clear hcz93_5
      try clear hcz93_6
      try clear hcz93_7
      try clear hcz93_8
      try clear hcz93_9
      try clear hcz95_0
      try clear hcz95_1
      try clear hcz95_2
      try clear hcz95_3
      try clear hcz96_0
      try clear hcz96_1
      try clear hcz96_2
      try clear hcz96_3
      try clear hcz96_4
      try clear hcz96_5
      try clear hcz97_0
      try clear hcz97_1
      try clear hcz97_10
      try clear hcz97_11
      try clear hcz97_12
      try clear hcz97_13
      try clear hcz97_14
      try clear hcz97_15
      try clear hcz97_16
      try clear hcz97_17
      try clear hcz97_18
      try clear hcz97_19
      try clear hcz97_2
      try clear hcz97_20
      try clear hcz97_21
      try clear hcz97_22
      try clear hcz97_23
      try clear hcz97_3
      try clear hcz97_4
      try clear hcz97_5
      try clear hcz97_6
      try clear hcz97_7
      try clear hcz97_8
      try clear hcz97_9
      try clear hfz101_0
      try clear hfz101_1
      try clear hfz101_10
      try clear hfz101_11
      try clear hfz101_12
      try clear hfz101_13
      try clear hfz101_14
      try clear hfz101_15
      try clear hfz101_16
      try clear hfz101_17
      try clear hfz101_18
      try clear hfz101_19
      try clear hfz101_2
      try clear hfz101_20
      try clear hfz101_21
      try clear hfz101_22
      try clear hfz101_23
      try clear hfz101_3
      try clear hfz101_4
      try clear hfz101_5
      try clear hfz101_6
      try clear hfz101_7
      try clear hfz101_8
      try clear hfz101_9
      try clear hfz104_0
      try clear hfz104_1
      try clear hfz104_2
      try clear hfz104_3
      try clear hfz106_0
      try clear hfz106_1
      try clear hfz106_10
      try clear hfz106_2
      try clear hfz106_3
      try clear hfz106_4
      try clear hfz106_5
      try clear hfz106_6
      try clear hfz106_7
      try clear hfz106_8
      try clear hfz106_9
      try clear hfz108_0
      try clear hfz108_1
      try clear hfz108_2
      try clear hfz108_3
      try clear hfz109_0
      try clear hfz109_1
      try clear hfz109_2
      try clear hfz109_3
      try clear hfz109_4
      try clear hfz109_5
      try clear hfz110_0
      try clear hfz110_1
      try clear hfz110_10
      try clear hfz110_11
      try clear hfz110_12
      try clear hfz110_13
      try clear hfz110_14
      try clear hfz110_15
      try clear hfz110_16
      try clear hfz110_17
      try clear hfz110_18
      try clear hfz110_19
      try clear hfz110_2
      try clear hfz110_20
      try clear hfz110_21
      try clear hfz110_22
      try clear hfz110_23
      try clear hfz110_3
      try clear hfz110_4
      try clear hfz110_5
      try clear hfz110_6
      try clear hfz110_7
      try clear hfz110_8
      try clear hfz110_9
      try clear hfz114_0
      try clear hfz114_1
      try clear hfz114_10
      try clear hfz114_11
      try clear hfz114_12
      try clear hfz114_13
      try clear hfz114_14
      try clear hfz114_15
      try clear hfz114_16
      try clear hfz114_17
      try clear hfz114_18
      try clear hfz114_19
      try clear hfz114_2
      try clear hfz114_20
      try clear hfz114_21
      try clear hfz114_22
      try clear hfz114_23
      try clear hfz114_3
      try clear hfz114_4
      try clear hfz114_5
      try clear hfz114_6
      try clear hfz114_7
      try clear hfz114_8
      try clear hfz114_9
      try clear hfz117_0
      try clear hfz117_1
      try clear hfz117_2
      try clear hfz117_3
      try clear hfz119_0
      try clear hfz119_1
      try clear hfz119_10
      try clear hfz119_2
      try clear hfz119_3
      try clear hfz119_4
      try clear hfz119_5
      try clear hfz119_6
      try clear hfz119_7
      try clear hfz119_8
      try clear hfz119_9
      try clear hfz121_0
      try clear hfz121_1
      try clear hfz121_2
      try clear hfz121_3
      try clear hfz122_0
      try clear hfz122_1
      try clear hfz122_2
      try clear hfz122_3
      try clear hfz122_4
      try clear hfz122_5
      try clear hfz126_0
      try clear hfz126_1
      try clear hfz126_10
      try clear hfz126_11
      try clear hfz126_12
      try clear hfz126_13
      try clear hfz126_14
      try clear hfz126_15
      try clear hfz126_16
      try clear hfz126_17
      try clear hfz126_18
      try clear hfz126_19
      try clear hfz126_2
      try clear hfz126_20
      try clear hfz126_21
      try clear hfz126_22
      try clear hfz126_23
      try clear hfz126_3
      try clear hfz126_4
      try clear hfz126_5
      try clear hfz126_6
      try clear hfz126_7
      try clear hfz126_8
      try clear hfz126_9
      try clear hfz129_0
      try clear hfz129_1
      try clear hfz129_2
      try clear hfz129_3
      try clear hfz131_0
      try clear hfz131_1
      try clear hfz131_10
      try clear hfz131_2
      try clear hfz131_3
      try clear hfz131_4
      try clear hfz131_5
      try clear hfz131_6
      try clear hfz131_7
      try clear hfz131_8
      try clear hfz131_9
      try clear hfz136_0
      try clear hfz136_1
      try clear hfz136_10
      try clear hfz136_11
      try clear hfz136_12
      try clear hfz136_13
      try clear hfz136_14
      try clear hfz136_15
      try clear hfz136_16
      try clear hfz136_17
      try clear hfz136_18
      try clear hfz136_19
      try clear hfz136_2
      try clear hfz136_20
      try clear hfz136_21
      try clear hfz136_22
      try clear hfz136_23
      try clear hfz136_3
      try clear hfz136_4
      try clear hfz136_5
      try clear hfz136_6
      try clear hfz136_7
      try clear hfz136_8
      try clear hfz136_9
      try clear hfz139_0
      try clear hfz139_1
      try clear hfz139_2
      try clear hfz139_3
      try clear hfz58_2
      try clear hfz58_3
      try clear hfz60_0
      try clear hfz60_1
      try clear hfz60_10
      try clear hfz60_2
      try clear hfz60_3
      try clear hfz60_4
      try clear hfz60_5
      try clear hfz60_6
      try clear hfz60_7
      try clear hfz60_8
      try clear hfz60_9
      try clear hfz62_0
      try clear hfz62_1
      try clear hfz62_2
      try clear hfz62_3
      try clear hfz63_0
      try clear hfz63_1
      try clear hfz63_2
      try clear hfz63_3
      try clear hfz63_4
      try clear hfz63_5
      try clear hfz64_0
      try clear hfz64_1
      try clear hfz64_10
      try clear hfz64_11
      try clear hfz64_12
      try clear hfz64_13
      try clear hfz64_14
      try clear hfz64_15
      try clear hfz64_16
      try clear hfz64_17
      try clear hfz64_18
      try clear hfz64_19
      try clear hfz64_2
      try clear hfz64_20
      try clear hfz64_21
      try clear hfz64_22
      try clear hfz64_23
      try clear hfz64_3
      try clear hfz64_4
      try clear hfz64_5
      try clear hfz64_6
      try clear hfz64_7
      try clear hfz64_8
      try clear hfz64_9
      try clear hfz65_0
      try clear hfz65_1
      try clear hfz65_10
      try clear hfz65_2
      try clear hfz65_3
      try clear hfz65_4
      try clear hfz65_5
      try clear hfz65_6
      try clear hfz65_7
      try clear hfz65_8
      try clear hfz65_9
      try clear hfz71_0
      try clear hfz71_1
      try clear hfz71_10
      try clear hfz71_11
      try clear hfz71_12
      try clear hfz71_13
      try clear hfz71_14
      try clear hfz71_15
      try clear hfz71_16
      try clear hfz71_17
      try clear hfz71_18
      try clear hfz71_19
      try clear hfz71_2
      try clear hfz71_20
      try clear hfz71_21
      try clear hfz71_22
      try clear hfz71_23
      try clear hfz71_3
      try clear hfz71_4
      try clear hfz71_5
      try clear hfz71_6
      try clear hfz71_7
      try clear hfz71_8
      try clear hfz71_9
      try clear hfz74_0
      try clear hfz74_1
      try clear hfz74_2
      try clear hfz74_3
      try clear hfz76_0
      try clear hfz76_1
      try clear hfz76_10
      try clear hfz76_2
      try clear hfz76_3
      try clear hfz76_4
      try clear hfz76_5
      try clear hfz76_6
      try clear hfz76_7
      try clear hfz76_8
      try clear hfz76_9
      try clear hfz78_0
      try clear hfz78_1
      try clear hfz78_2
      try clear hfz78_3
      try clear hfz79_0
      try clear hfz79_1
      try clear hfz79_2
      try clear hfz79_3
      try clear hfz79_4
      try clear hfz79_5
      try clear hfz80_0
      try clear hfz80_1
      try clear hfz80_10
      try clear hfz80_11
      try clear hfz80_12
      try clear hfz80_13
      try clear hfz80_14
      try clear hfz80_15
      try clear hfz80_16
      try clear hfz80_17
      try clear hfz80_18
      try clear hfz80_19
      try clear hfz80_2
      try clear hfz80_20
      try clear hfz80_21
      try clear hfz80_22
      try clear hfz80_23
      try clear hfz80_3
      try clear hfz80_4
      try clear hfz80_5
      try clear hfz80_6
      try clear hfz80_7
      try clear hfz80_8
      try clear hfz80_9
      try clear hfz81_0
      try clear hfz81_1
      try clear hfz81_10
      try clear hfz81_2
      try clear hfz81_3
      try clear hfz81_4
      try clear hfz81_5
      try clear hfz81_6
      try clear hfz81_7
      try clear hfz81_8
      try clear hfz81_9
      try clear hfz83_0
      try clear hfz83_1
      try clear hfz83_10
      try clear hfz83_2
      try clear hfz83_3
      try clear hfz83_4
      try clear hfz83_5
      try clear hfz83_6
      try clear hfz83_7
      try clear hfz83_8
      try clear hfz83_9
      try clear hfz88_0
      try clear hfz88_1
      try clear hfz88_10
      try clear hfz88_11
      try clear hfz88_12
      try clear hfz88_13
      try clear hfz88_14
      try clear hfz88_15
      try clear hfz88_16
      try clear hfz88_17
      try clear hfz88_18
      try clear hfz88_19
      try clear hfz88_2
      try clear hfz88_20
      try clear hfz88_21
      try clear hfz88_22
      try clear hfz88_23
      try clear hfz88_3
      try clear hfz88_4
      try clear hfz88_5
      try clear hfz88_6
      try clear hfz88_7
      try clear hfz88_8
      try clear hfz88_9
      try clear hfz91_0
      try clear hfz91_1
      try clear hfz91_2
      try clear hfz91_3
      try clear hfz93_0
      try clear hfz93_1
      try clear hfz93_10
      try clear hfz93_2
      try clear hfz93_3
      try clear hfz93_4
      try clear hfz93_5
      try clear hfz93_6
      try clear hfz93_7
      try clear hfz93_8
      try clear hfz93_9
      try clear hfz95_0
      try clear hfz95_1
      try clear hfz95_2
      try clear hfz95_3
      try clear hfz96_0
      try clear hfz96_1
      try clear hfz96_2
      try clear hfz96_3
      try clear hfz96_4
      try clear hfz96_5
      try clear hfz97_0
      try clear hfz97_1
      try clear hfz97_10
      try clear hfz97_11
      try clear hfz97_12
      try clear hfz97_13
      try clear hfz97_14
      try clear hfz97_15
      try clear hfz97_16
      try clear hfz97_17
      try clear hfz97_18
      try clear hfz97_19
      try clear hfz97_2
      try clear hfz97_20
      try clear hfz97_21
      try clear hfz97_22
      try clear hfz97_23
      try clear hfz97_3
      try clear hfz97_4
      try clear hfz97_5
      try clear hfz97_6
      try clear hfz97_7
      try clear hfz97_8
      try clear hfz97_9
      obtain ⟨kq, x118_22, rfl, HA, HJ22, BK401, BK402, BK403, BK412, HB⟩ := hcut
      cases kq with
      | zero => exact absurd HA.out (by simp [l24_AcceptOwners.j1])
      | succ kj22 =>
       have H := HA.out
       clear HA
       simp only [l24_AcceptOwners.j1] at H
       by_cases c140 : x118_22 = true
       ·subst c140
        have H1 : (none) = some r := by rw [if_pos rfl] at H; exact H
        clear H
        have H := H1
        clear H1
        exact absurd H (by simp)
       ·replace c140 := Bool.eq_false_iff.mpr c140
        subst c140
        have H1 : ((r23_Has.f a1_11 t408).bind fun t419 => (if t419 = true then (l24_AcceptOwners.j2 kj22 a2 t405 t406 true a0_0 a0_1 a0_2 a0_3 a0_4 a0_5 a0_6 a0_7 a0_8 a0_9 l0_10 a1_0 a1_1 a1_2 a1_3 a1_4 a1_5 a1_6 a1_7 a1_8 a1_9 a1_10 a1_11 a1_12 a1_13 a1_14 l1_15 l1_16 l1_17 a1_18 a1_19 a1_20 a1_21 a1_22 a1_23 a3_0 a3_1 a3_2 a3_3 a3_4 a3_5) else ((r23_Has.f t405 t408).bind fun t420 => (if t420 = true then ((r23_Has.f t406 a2).bind fun t421 => (l24_AcceptOwners.j2 kj22 a2 t405 t406 (!t421) a0_0 a0_1 a0_2 a0_3 a0_4 a0_5 a0_6 a0_7 a0_8 a0_9 l0_10 a1_0 a1_1 a1_2 a1_3 a1_4 a1_5 a1_6 a1_7 a1_8 a1_9 a1_10 a1_11 a1_12 a1_13 a1_14 l1_15 l1_16 l1_17 a1_18 a1_19 a1_20 a1_21 a1_22 a1_23 a3_0 a3_1 a3_2 a3_3 a3_4 a3_5)) else (l24_AcceptOwners.j2 kj22 a2 t405 t406 true a0_0 a0_1 a0_2 a0_3 a0_4 a0_5 a0_6 a0_7 a0_8 a0_9 l0_10 a1_0 a1_1 a1_2 a1_3 a1_4 a1_5 a1_6 a1_7 a1_8 a1_9 a1_10 a1_11 a1_12 a1_13 a1_14 l1_15 l1_16 l1_17 a1_18 a1_19 a1_20 a1_21 a1_22 a1_23 a3_0 a3_1 a3_2 a3_3 a3_4 a3_5))))) = some r := by rw [if_neg (show ¬ (false = true) by decide)] at H; exact H
        clear H
        have H := H1
        clear H1
        have HC141 := Aside0.mk H
        clear H
        go_upto_region 9 with (fail)
        go_cut [136] (fun v136 wc => ∃ (kq : Nat) (x136_140 : Bool), v136 = .bool x136_140 ∧ Aside0 (l24_AcceptOwners.j2 kq a2 t405 t406 x136_140 a0_0 a0_1 a0_2 a0_3 a0_4 a0_5 a0_6 a0_7 a0_8 a0_9 l0_10 a1_0 a1_1 a1_2 a1_3 a1_4 a1_5 a1_6 a1_7 a1_8 a1_9 a1_10 a1_11 a1_12 a1_13 a1_14 l1_15 l1_16 l1_17 a1_18 a1_19 a1_20 a1_21 a1_22 a1_23 a3_0 a3_1 a3_2 a3_3 a3_4 a3_5 = some r) ∧ Aside0 (kq ≤ kj22) ∧ Aside0 (wc.heap[gb401]? = some (.cells #[.int .i64 a0_0, .int .i64 a0_1, .int .i64 a0_2, .int .i64 a0_3, .int .i64 a0_4, .int .i64 a0_5, .int .i64 a0_6, .int .i64 a0_7, .int .i64 a0_8, .int .i64 a0_9, (.slice A0_10 l0_10.length c0_10)] 24 (0, 0))) ∧ Aside0 (wc.heap[gb402]? = some (.cells #[.int .i64 a1_0, .int .i64 a1_1, .int .i64 a1_2, .string a1_3, .int .i64 a1_4, .string a1_5, .string a1_6, .int .i64 a1_7, .int .i64 a1_8, .string a1_9, .string a1_10, .string a1_11, .string a1_12, .string a1_13, .string a1_14, (.slice A1_15 l1_15.length c1_15), (.slice A1_16 l1_16.length c1_16), (.slice A1_17 l1_17.length c1_17), .int .i64 a1_18, .int .i64 a1_19, .int .i64 a1_20, .int .i64 a1_21, .int .i64 a1_22, .int .i64 a1_23] 30 (0, 0))) ∧ Aside0 (wc.heap[gb403]? = some (.cells #[.string a3_0, .int .i64 a3_1, .string a3_2, .int .i64 a3_3, .int .i64 a3_4, .string a3_5] 32 (0, 0))) ∧ Aside0 (wc.heap[gb412]? = some (.cells #[.int .i64 t407, .int .i64 t408, .int .i64 t409, .string t410] 35 (0, 0))) ∧ Aside0 (Below w.heap.size w wc))
        case first =>
         have H := HC141.out
         clear HC141
         replace H := Option.bind_eq_some_iff.mp H
         obtain ⟨t419, A1420, H⟩ := H
         replace H : (if t419 = true then (l24_AcceptOwners.j2 kj22 a2 t405 t406 true a0_0 a0_1 a0_2 a0_3 a0_4 a0_5 a0_6 a0_7 a0_8 a0_9 l0_10 a1_0 a1_1 a1_2 a1_3 a1_4 a1_5 a1_6 a1_7 a1_8 a1_9 a1_10 a1_11 a1_12 a1_13 a1_14 l1_15 l1_16 l1_17 a1_18 a1_19 a1_20 a1_21 a1_22 a1_23 a3_0 a3_1 a3_2 a3_3 a3_4 a3_5) else ((r23_Has.f t405 t408).bind fun t420 => (if t420 = true then ((r23_Has.f t406 a2).bind fun t421 => (l24_AcceptOwners.j2 kj22 a2 t405 t406 (!t421) a0_0 a0_1 a0_2 a0_3 a0_4 a0_5 a0_6 a0_7 a0_8 a0_9 l0_10 a1_0 a1_1 a1_2 a1_3 a1_4 a1_5 a1_6 a1_7 a1_8 a1_9 a1_10 a1_11 a1_12 a1_13 a1_14 l1_15 l1_16 l1_17 a1_18 a1_19 a1_20 a1_21 a1_22 a1_23 a3_0 a3_1 a3_2 a3_3 a3_4 a3_5)) else (l24_AcceptOwners.j2 kj22 a2 t405 t406 true a0_0 a0_1 a0_2 a0_3 a0_4 a0_5 a0_6 a0_7 a0_8 a0_9 l0_10 a1_0 a1_1 a1_2 a1_3 a1_4 a1_5 a1_6 a1_7 a1_8 a1_9 a1_10 a1_11 a1_12 a1_13 a1_14 l1_15 l1_16 l1_17 a1_18 a1_19 a1_20 a1_21 a1_22 a1_23 a3_0 a3_1 a3_2 a3_3 a3_4 a3_5)))) = some r := H
         have A142 := Aside0.mk A1420
         clear A1420
         by_cases c143 : t419 = true
         ·subst c143
          have H1 : (l24_AcceptOwners.j2 kj22 a2 t405 t406 true a0_0 a0_1 a0_2 a0_3 a0_4 a0_5 a0_6 a0_7 a0_8 a0_9 l0_10 a1_0 a1_1 a1_2 a1_3 a1_4 a1_5 a1_6 a1_7 a1_8 a1_9 a1_10 a1_11 a1_12 a1_13 a1_14 l1_15 l1_16 l1_17 a1_18 a1_19 a1_20 a1_21 a1_22 a1_23 a3_0 a3_1 a3_2 a3_3 a3_4 a3_5) = some r := by rw [if_pos rfl] at H; exact H
          clear H
          have H := H1
          clear H1
          have H' := Aside0.mk H
          clear H
          have hnb144 := NB402_401.out
          have hnc144 := NB401_402.out
          have hnb145 := NB402_403.out
          have hnc145 := NB403_402.out
          have hnb146 := NB402_412.out
          have hnc146 := NB412_402.out
          obtain ⟨hcz147_0, hcz147_1, hcz147_2, hcz147_3, hcz147_4, hcz147_5, hcz147_6, hcz147_7, hcz147_8, hcz147_9, hcz147_10, hcz147_11, hcz147_12, hcz147_13, hcz147_14, hcz147_15, hcz147_16, hcz147_17, hcz147_18, hcz147_19, hcz147_20, hcz147_21, hcz147_22, hcz147_23⟩ := cells_24 BK402.out
          obtain ⟨hfz147_0, hfz147_1, hfz147_2, hfz147_3, hfz147_4, hfz147_5, hfz147_6, hfz147_7, hfz147_8, hfz147_9, hfz147_10, hfz147_11, hfz147_12, hfz147_13, hfz147_14, hfz147_15, hfz147_16, hfz147_17, hfz147_18, hfz147_19, hfz147_20, hfz147_21, hfz147_22, hfz147_23⟩ := frozen_24 BK402.out
          have hnb148 := NB412_401.out
          have hnc148 := NB401_412.out
          have hnb149 := NB412_403.out
          have hnc149 := NB403_412.out
          have hcz150_0 : wc.cell? ⟨gb412, 0, none⟩ = some (.int .i64 t407) := (blk_cell BK412.out 0).trans rfl
          have hcz150_1 : wc.cell? ⟨gb412, 1, none⟩ = some (.int .i64 t408) := (blk_cell BK412.out 1).trans rfl
          have hcz150_2 : wc.cell? ⟨gb412, 2, none⟩ = some (.int .i64 t409) := (blk_cell BK412.out 2).trans rfl
          have hcz150_3 : wc.cell? ⟨gb412, 3, none⟩ = some (.string t410) := (blk_cell BK412.out 3).trans rfl
          have hfz150_0 := blk_frozen BK412.out 0
          have hfz150_1 := blk_frozen BK412.out 1
          have hfz150_2 := blk_frozen BK412.out 2
          have hfz150_3 := blk_frozen BK412.out 3
          go_wp2_with (first | ((with_reducible refine gate_load (t := 24) (x := .tmp 4) rfl ?_); refine load_row_g (cs := ?_) ?hw 24 (.tmp 4) ?h2 gb401 ?hx 24 (fr := (0, 0)) (d := ?_) ?hg ?h3 ?h4 ?hi ?_; (case hw => first | (with_reducible rfl) | (go_simp; done) | rfl); (case h2 => rfl); (case hx => first | (with_reducible rfl) | (go_simp; done) | rfl); (case hg => (with_reducible repeat (first | refine blk_drewN ?_ _ | refine blk_drew ?_ | refine blk_alloc ?_ _)); with_reducible exact BK401.out); (case h3 => exact Try.underlying24); (case h4 => rfl); (case hi => kernel_rfl)) | ((with_reducible refine gate_load (t := 30) (x := .tmp 5) rfl ?_); refine load_row_g (cs := ?_) ?hw 30 (.tmp 5) ?h2 gb402 ?hx 30 (fr := (0, 0)) (d := ?_) ?hg ?h3 ?h4 ?hi ?_; (case hw => first | (with_reducible rfl) | (go_simp; done) | rfl); (case h2 => rfl); (case hx => first | (with_reducible rfl) | (go_simp; done) | rfl); (case hg => (with_reducible repeat (first | refine blk_drewN ?_ _ | refine blk_drew ?_ | refine blk_alloc ?_ _)); with_reducible exact BK402.out); (case h3 => exact Try.underlying30); (case h4 => rfl); (case hi => kernel_rfl)) | ((with_reducible refine gate_load (t := 32) (x := .tmp 7) rfl ?_); refine load_row_g (cs := ?_) ?hw 32 (.tmp 7) ?h2 gb403 ?hx 32 (fr := (0, 0)) (d := ?_) ?hg ?h3 ?h4 ?hi ?_; (case hw => first | (with_reducible rfl) | (go_simp; done) | rfl); (case h2 => rfl); (case hx => first | (with_reducible rfl) | (go_simp; done) | rfl); (case hg => (with_reducible repeat (first | refine blk_drewN ?_ _ | refine blk_drew ?_ | refine blk_alloc ?_ _)); with_reducible exact BK403.out); (case h3 => exact Try.underlying32); (case h4 => rfl); (case hi => kernel_rfl)) | ((with_reducible refine gate_callee (f := 19) rfl ?_); refine goesL_ (some 123) rfl rfl Try.func19 (by kernel_rfl) rfl #[.string a1_11, .int .i64 t408] rfl (by (try simp only [List.map_toArray, List.map_cons, List.map_nil]); first | done | rfl) ?_; (with_reducible refine (r23_Has.calls a1_11 t408 true _ A142.out).mono ?_); rintro e w' ⟨rfl, ⟨nd, rfl⟩⟩; refine ⟨_, rfl, ?_⟩))
          go_meet
          case rel => exact ⟨_, (true), (by first | rfl | (simp; done) | (simp [*]; done)), H', ⟨by have := HJ4.out; have := HJ22.out; first | omega | exact Nat.le_refl _⟩, ⟨by (with_reducible repeat (first | refine blk_drewN ?_ _ | refine blk_drew ?_ | refine blk_alloc ?_ _)); exact BK401.out⟩, ⟨by (with_reducible repeat (first | refine blk_drewN ?_ _ | refine blk_drew ?_ | refine blk_alloc ?_ _)); exact BK402.out⟩, ⟨by (with_reducible repeat (first | refine blk_drewN ?_ _ | refine blk_drew ?_ | refine blk_alloc ?_ _)); exact BK403.out⟩, ⟨by (with_reducible repeat (first | refine blk_drewN ?_ _ | refine blk_drew ?_ | refine blk_alloc ?_ _)); exact BK412.out⟩, ⟨by repeat (first | (with_reducible first | exact HB.out | apply below_alloc | apply pw_below_drewN | apply below_drew1 | refine below_set ?_ GE401.out | refine below_set ?_ GE402.out | refine below_set ?_ GE403.out | refine below_set ?_ GE412.out) | exact HB.out)⟩⟩
         ·replace c143 := Bool.eq_false_iff.mpr c143
          subst c143
          have H1 : ((r23_Has.f t405 t408).bind fun t420 => (if t420 = true then ((r23_Has.f t406 a2).bind fun t421 => (l24_AcceptOwners.j2 kj22 a2 t405 t406 (!t421) a0_0 a0_1 a0_2 a0_3 a0_4 a0_5 a0_6 a0_7 a0_8 a0_9 l0_10 a1_0 a1_1 a1_2 a1_3 a1_4 a1_5 a1_6 a1_7 a1_8 a1_9 a1_10 a1_11 a1_12 a1_13 a1_14 l1_15 l1_16 l1_17 a1_18 a1_19 a1_20 a1_21 a1_22 a1_23 a3_0 a3_1 a3_2 a3_3 a3_4 a3_5)) else (l24_AcceptOwners.j2 kj22 a2 t405 t406 true a0_0 a0_1 a0_2 a0_3 a0_4 a0_5 a0_6 a0_7 a0_8 a0_9 l0_10 a1_0 a1_1 a1_2 a1_3 a1_4 a1_5 a1_6 a1_7 a1_8 a1_9 a1_10 a1_11 a1_12 a1_13 a1_14 l1_15 l1_16 l1_17 a1_18 a1_19 a1_20 a1_21 a1_22 a1_23 a3_0 a3_1 a3_2 a3_3 a3_4 a3_5))) = some r := by rw [if_neg (show ¬ (false = true) by decide)] at H; exact H
          clear H
          have H := H1
          clear H1
          replace H := Option.bind_eq_some_iff.mp H
          obtain ⟨t420, A1510, H⟩ := H
          replace H : (if t420 = true then ((r23_Has.f t406 a2).bind fun t421 => (l24_AcceptOwners.j2 kj22 a2 t405 t406 (!t421) a0_0 a0_1 a0_2 a0_3 a0_4 a0_5 a0_6 a0_7 a0_8 a0_9 l0_10 a1_0 a1_1 a1_2 a1_3 a1_4 a1_5 a1_6 a1_7 a1_8 a1_9 a1_10 a1_11 a1_12 a1_13 a1_14 l1_15 l1_16 l1_17 a1_18 a1_19 a1_20 a1_21 a1_22 a1_23 a3_0 a3_1 a3_2 a3_3 a3_4 a3_5)) else (l24_AcceptOwners.j2 kj22 a2 t405 t406 true a0_0 a0_1 a0_2 a0_3 a0_4 a0_5 a0_6 a0_7 a0_8 a0_9 l0_10 a1_0 a1_1 a1_2 a1_3 a1_4 a1_5 a1_6 a1_7 a1_8 a1_9 a1_10 a1_11 a1_12 a1_13 a1_14 l1_15 l1_16 l1_17 a1_18 a1_19 a1_20 a1_21 a1_22 a1_23 a3_0 a3_1 a3_2 a3_3 a3_4 a3_5)) = some r := H
          have A151 := Aside0.mk A1510
          clear A1510
          by_cases c152 : t420 = true
          ·subst c152
           have H1 : ((r23_Has.f t406 a2).bind fun t421 => (l24_AcceptOwners.j2 kj22 a2 t405 t406 (!t421) a0_0 a0_1 a0_2 a0_3 a0_4 a0_5 a0_6 a0_7 a0_8 a0_9 l0_10 a1_0 a1_1 a1_2 a1_3 a1_4 a1_5 a1_6 a1_7 a1_8 a1_9 a1_10 a1_11 a1_12 a1_13 a1_14 l1_15 l1_16 l1_17 a1_18 a1_19 a1_20 a1_21 a1_22 a1_23 a3_0 a3_1 a3_2 a3_3 a3_4 a3_5)) = some r := by rw [if_pos rfl] at H; exact H
           clear H
           have H := H1
           clear H1
           replace H := Option.bind_eq_some_iff.mp H
           obtain ⟨t421, A1530, H⟩ := H
           replace H : (l24_AcceptOwners.j2 kj22 a2 t405 t406 (!t421) a0_0 a0_1 a0_2 a0_3 a0_4 a0_5 a0_6 a0_7 a0_8 a0_9 l0_10 a1_0 a1_1 a1_2 a1_3 a1_4 a1_5 a1_6 a1_7 a1_8 a1_9 a1_10 a1_11 a1_12 a1_13 a1_14 l1_15 l1_16 l1_17 a1_18 a1_19 a1_20 a1_21 a1_22 a1_23 a3_0 a3_1 a3_2 a3_3 a3_4 a3_5) = some r := H
           have A153 := Aside0.mk A1530
           clear A1530
           have H' := Aside0.mk H
           clear H
           have hnb154 := NB402_401.out
           have hnc154 := NB401_402.out
           have hnb155 := NB402_403.out
           have hnc155 := NB403_402.out
           have hnb156 := NB402_412.out
           have hnc156 := NB412_402.out
           obtain ⟨hcz157_0, hcz157_1, hcz157_2, hcz157_3, hcz157_4, hcz157_5, hcz157_6, hcz157_7, hcz157_8, hcz157_9, hcz157_10, hcz157_11, hcz157_12, hcz157_13, hcz157_14, hcz157_15, hcz157_16, hcz157_17, hcz157_18, hcz157_19, hcz157_20, hcz157_21, hcz157_22, hcz157_23⟩ := cells_24 BK402.out
           obtain ⟨hfz157_0, hfz157_1, hfz157_2, hfz157_3, hfz157_4, hfz157_5, hfz157_6, hfz157_7, hfz157_8, hfz157_9, hfz157_10, hfz157_11, hfz157_12, hfz157_13, hfz157_14, hfz157_15, hfz157_16, hfz157_17, hfz157_18, hfz157_19, hfz157_20, hfz157_21, hfz157_22, hfz157_23⟩ := frozen_24 BK402.out
           have hnb158 := NB412_401.out
           have hnc158 := NB401_412.out
           have hnb159 := NB412_403.out
           have hnc159 := NB403_412.out
           have hcz160_0 : wc.cell? ⟨gb412, 0, none⟩ = some (.int .i64 t407) := (blk_cell BK412.out 0).trans rfl
           have hcz160_1 : wc.cell? ⟨gb412, 1, none⟩ = some (.int .i64 t408) := (blk_cell BK412.out 1).trans rfl
           have hcz160_2 : wc.cell? ⟨gb412, 2, none⟩ = some (.int .i64 t409) := (blk_cell BK412.out 2).trans rfl
           have hcz160_3 : wc.cell? ⟨gb412, 3, none⟩ = some (.string t410) := (blk_cell BK412.out 3).trans rfl
           have hfz160_0 := blk_frozen BK412.out 0
           have hfz160_1 := blk_frozen BK412.out 1
           have hfz160_2 := blk_frozen BK412.out 2
           have hfz160_3 := blk_frozen BK412.out 3
           go_wp2_with (first | ((with_reducible refine gate_load (t := 24) (x := .tmp 4) rfl ?_); refine load_row_g (cs := ?_) ?hw 24 (.tmp 4) ?h2 gb401 ?hx 24 (fr := (0, 0)) (d := ?_) ?hg ?h3 ?h4 ?hi ?_; (case hw => first | (with_reducible rfl) | (go_simp; done) | rfl); (case h2 => rfl); (case hx => first | (with_reducible rfl) | (go_simp; done) | rfl); (case hg => (with_reducible repeat (first | refine blk_drewN ?_ _ | refine blk_drew ?_ | refine blk_alloc ?_ _)); with_reducible exact BK401.out); (case h3 => exact Try.underlying24); (case h4 => rfl); (case hi => kernel_rfl)) | ((with_reducible refine gate_load (t := 30) (x := .tmp 5) rfl ?_); refine load_row_g (cs := ?_) ?hw 30 (.tmp 5) ?h2 gb402 ?hx 30 (fr := (0, 0)) (d := ?_) ?hg ?h3 ?h4 ?hi ?_; (case hw => first | (with_reducible rfl) | (go_simp; done) | rfl); (case h2 => rfl); (case hx => first | (with_reducible rfl) | (go_simp; done) | rfl); (case hg => (with_reducible repeat (first | refine blk_drewN ?_ _ | refine blk_drew ?_ | refine blk_alloc ?_ _)); with_reducible exact BK402.out); (case h3 => exact Try.underlying30); (case h4 => rfl); (case hi => kernel_rfl)) | ((with_reducible refine gate_load (t := 32) (x := .tmp 7) rfl ?_); refine load_row_g (cs := ?_) ?hw 32 (.tmp 7) ?h2 gb403 ?hx 32 (fr := (0, 0)) (d := ?_) ?hg ?h3 ?h4 ?hi ?_; (case hw => first | (with_reducible rfl) | (go_simp; done) | rfl); (case h2 => rfl); (case hx => first | (with_reducible rfl) | (go_simp; done) | rfl); (case hg => (with_reducible repeat (first | refine blk_drewN ?_ _ | refine blk_drew ?_ | refine blk_alloc ?_ _)); with_reducible exact BK403.out); (case h3 => exact Try.underlying32); (case h4 => rfl); (case hi => kernel_rfl)) | ((with_reducible refine gate_callee (f := 19) rfl ?_); refine goesL_ (some 123) rfl rfl Try.func19 (by kernel_rfl) rfl #[.string a1_11, .int .i64 t408] rfl (by (try simp only [List.map_toArray, List.map_cons, List.map_nil]); first | done | rfl) ?_; (with_reducible refine (r23_Has.calls a1_11 t408 false _ A142.out).mono ?_); rintro e w' ⟨rfl, ⟨nd, rfl⟩⟩; refine ⟨_, rfl, ?_⟩) | (go_at_call 19; (with_reducible refine (r23_Has.calls t405 t408 true _ A151.out).mono ?_); rintro e w' ⟨rfl, ⟨nd, rfl⟩⟩) | (go_at_call 19; (with_reducible refine (r23_Has.calls t406 a2 t421 _ A153.out).mono ?_); rintro e w' ⟨rfl, ⟨nd, rfl⟩⟩))
           go_meet
           case rel => exact ⟨_, (!t421), (by first | rfl | (simp; done) | (simp [*]; done)), H', ⟨by have := HJ4.out; have := HJ22.out; first | omega | exact Nat.le_refl _⟩, ⟨by (with_reducible repeat (first | refine blk_drewN ?_ _ | refine blk_drew ?_ | refine blk_alloc ?_ _)); exact BK401.out⟩, ⟨by (with_reducible repeat (first | refine blk_drewN ?_ _ | refine blk_drew ?_ | refine blk_alloc ?_ _)); exact BK402.out⟩, ⟨by (with_reducible repeat (first | refine blk_drewN ?_ _ | refine blk_drew ?_ | refine blk_alloc ?_ _)); exact BK403.out⟩, ⟨by (with_reducible repeat (first | refine blk_drewN ?_ _ | refine blk_drew ?_ | refine blk_alloc ?_ _)); exact BK412.out⟩, ⟨by repeat (first | (with_reducible first | exact HB.out | apply below_alloc | apply pw_below_drewN | apply below_drew1 | refine below_set ?_ GE401.out | refine below_set ?_ GE402.out | refine below_set ?_ GE403.out | refine below_set ?_ GE412.out) | exact HB.out)⟩⟩
          ·replace c152 := Bool.eq_false_iff.mpr c152
           subst c152
           have H1 : (l24_AcceptOwners.j2 kj22 a2 t405 t406 true a0_0 a0_1 a0_2 a0_3 a0_4 a0_5 a0_6 a0_7 a0_8 a0_9 l0_10 a1_0 a1_1 a1_2 a1_3 a1_4 a1_5 a1_6 a1_7 a1_8 a1_9 a1_10 a1_11 a1_12 a1_13 a1_14 l1_15 l1_16 l1_17 a1_18 a1_19 a1_20 a1_21 a1_22 a1_23 a3_0 a3_1 a3_2 a3_3 a3_4 a3_5) = some r := by rw [if_neg (show ¬ (false = true) by decide)] at H; exact H
           clear H
           have H := H1
           clear H1
           have H' := Aside0.mk H
           clear H
           have hnb161 := NB402_401.out
           have hnc161 := NB401_402.out
           have hnb162 := NB402_403.out
           have hnc162 := NB403_402.out
           have hnb163 := NB402_412.out
           have hnc163 := NB412_402.out
           obtain ⟨hcz164_0, hcz164_1, hcz164_2, hcz164_3, hcz164_4, hcz164_5, hcz164_6, hcz164_7, hcz164_8, hcz164_9, hcz164_10, hcz164_11, hcz164_12, hcz164_13, hcz164_14, hcz164_15, hcz164_16, hcz164_17, hcz164_18, hcz164_19, hcz164_20, hcz164_21, hcz164_22, hcz164_23⟩ := cells_24 BK402.out
           obtain ⟨hfz164_0, hfz164_1, hfz164_2, hfz164_3, hfz164_4, hfz164_5, hfz164_6, hfz164_7, hfz164_8, hfz164_9, hfz164_10, hfz164_11, hfz164_12, hfz164_13, hfz164_14, hfz164_15, hfz164_16, hfz164_17, hfz164_18, hfz164_19, hfz164_20, hfz164_21, hfz164_22, hfz164_23⟩ := frozen_24 BK402.out
           have hnb165 := NB412_401.out
           have hnc165 := NB401_412.out
           have hnb166 := NB412_403.out
           have hnc166 := NB403_412.out
           have hcz167_0 : wc.cell? ⟨gb412, 0, none⟩ = some (.int .i64 t407) := (blk_cell BK412.out 0).trans rfl
           have hcz167_1 : wc.cell? ⟨gb412, 1, none⟩ = some (.int .i64 t408) := (blk_cell BK412.out 1).trans rfl
           have hcz167_2 : wc.cell? ⟨gb412, 2, none⟩ = some (.int .i64 t409) := (blk_cell BK412.out 2).trans rfl
           have hcz167_3 : wc.cell? ⟨gb412, 3, none⟩ = some (.string t410) := (blk_cell BK412.out 3).trans rfl
           have hfz167_0 := blk_frozen BK412.out 0
           have hfz167_1 := blk_frozen BK412.out 1
           have hfz167_2 := blk_frozen BK412.out 2
           have hfz167_3 := blk_frozen BK412.out 3
           go_wp2_with (first | ((with_reducible refine gate_load (t := 24) (x := .tmp 4) rfl ?_); refine load_row_g (cs := ?_) ?hw 24 (.tmp 4) ?h2 gb401 ?hx 24 (fr := (0, 0)) (d := ?_) ?hg ?h3 ?h4 ?hi ?_; (case hw => first | (with_reducible rfl) | (go_simp; done) | rfl); (case h2 => rfl); (case hx => first | (with_reducible rfl) | (go_simp; done) | rfl); (case hg => (with_reducible repeat (first | refine blk_drewN ?_ _ | refine blk_drew ?_ | refine blk_alloc ?_ _)); with_reducible exact BK401.out); (case h3 => exact Try.underlying24); (case h4 => rfl); (case hi => kernel_rfl)) | ((with_reducible refine gate_load (t := 30) (x := .tmp 5) rfl ?_); refine load_row_g (cs := ?_) ?hw 30 (.tmp 5) ?h2 gb402 ?hx 30 (fr := (0, 0)) (d := ?_) ?hg ?h3 ?h4 ?hi ?_; (case hw => first | (with_reducible rfl) | (go_simp; done) | rfl); (case h2 => rfl); (case hx => first | (with_reducible rfl) | (go_simp; done) | rfl); (case hg => (with_reducible repeat (first | refine blk_drewN ?_ _ | refine blk_drew ?_ | refine blk_alloc ?_ _)); with_reducible exact BK402.out); (case h3 => exact Try.underlying30); (case h4 => rfl); (case hi => kernel_rfl)) | ((with_reducible refine gate_load (t := 32) (x := .tmp 7) rfl ?_); refine load_row_g (cs := ?_) ?hw 32 (.tmp 7) ?h2 gb403 ?hx 32 (fr := (0, 0)) (d := ?_) ?hg ?h3 ?h4 ?hi ?_; (case hw => first | (with_reducible rfl) | (go_simp; done) | rfl); (case h2 => rfl); (case hx => first | (with_reducible rfl) | (go_simp; done) | rfl); (case hg => (with_reducible repeat (first | refine blk_drewN ?_ _ | refine blk_drew ?_ | refine blk_alloc ?_ _)); with_reducible exact BK403.out); (case h3 => exact Try.underlying32); (case h4 => rfl); (case hi => kernel_rfl)) | ((with_reducible refine gate_callee (f := 19) rfl ?_); refine goesL_ (some 123) rfl rfl Try.func19 (by kernel_rfl) rfl #[.string a1_11, .int .i64 t408] rfl (by (try simp only [List.map_toArray, List.map_cons, List.map_nil]); first | done | rfl) ?_; (with_reducible refine (r23_Has.calls a1_11 t408 false _ A142.out).mono ?_); rintro e w' ⟨rfl, ⟨nd, rfl⟩⟩; refine ⟨_, rfl, ?_⟩) | (go_at_call 19; (with_reducible refine (r23_Has.calls t405 t408 false _ A151.out).mono ?_); rintro e w' ⟨rfl, ⟨nd, rfl⟩⟩))
           go_meet
           case rel => exact ⟨_, (true), (by first | rfl | (simp; done) | (simp [*]; done)), H', ⟨by have := HJ4.out; have := HJ22.out; first | omega | exact Nat.le_refl _⟩, ⟨by (with_reducible repeat (first | refine blk_drewN ?_ _ | refine blk_drew ?_ | refine blk_alloc ?_ _)); exact BK401.out⟩, ⟨by (with_reducible repeat (first | refine blk_drewN ?_ _ | refine blk_drew ?_ | refine blk_alloc ?_ _)); exact BK402.out⟩, ⟨by (with_reducible repeat (first | refine blk_drewN ?_ _ | refine blk_drew ?_ | refine blk_alloc ?_ _)); exact BK403.out⟩, ⟨by (with_reducible repeat (first | refine blk_drewN ?_ _ | refine blk_drew ?_ | refine blk_alloc ?_ _)); exact BK412.out⟩, ⟨by repeat (first | (with_reducible first | exact HB.out | apply below_alloc | apply pw_below_drewN | apply below_drew1 | refine below_set ?_ GE401.out | refine below_set ?_ GE402.out | refine below_set ?_ GE403.out | refine below_set ?_ GE412.out) | exact HB.out)⟩⟩
        case rest =>
         clear HC141
         try clear c1
         try clear p2
         try clear c14
         try clear c15
         try clear c16
         try clear c19
         try clear c140
         try clear c143
         try clear c144
         try clear c145
         try clear c146
         try clear c148
         try clear c149
         try clear c152
         try clear c154
         try clear c155
         try clear c156
         try clear c158
         try clear c159
         try clear c161
         try clear c162
         try clear c163
         try clear c165
         try clear c166
         try clear hcz147_0
         try clear hcz147_1
         try clear hcz147_10
         try clear hcz147_11
         try clear hcz147_12
         try clear hcz147_13
         try clear hcz147_14
         try clear hcz147_15
         try clear hcz147_16
         try clear hcz147_17
         try clear hcz147_18
         try clear hcz147_19
         try clear hcz147_2
         try clear hcz147_20
         try clear hcz147_21
         try clear hcz147_22
         try clear hcz147_23
         try clear hcz147_3
         try clear hcz147_4
         try clear hcz147_5
         try clear hcz147_6
         try clear hcz147_7
         try clear hcz147_8
         try clear hcz147_9
         try clear hcz150_0
         try clear hcz150_1
         try clear hcz150_2
         try clear hcz150_3
         try clear hcz157_0
         try clear hcz157_1
         try clear hcz157_10
         try clear hcz157_11
         try clear hcz157_12
         try clear hcz157_13
         try clear hcz157_14
         try clear hcz157_15
         try clear hcz157_16
         try clear hcz157_17
         try clear hcz157_18
         try clear hcz157_19
         try clear hcz157_2
         try clear hcz157_20
         try clear hcz157_21
         try clear hcz157_22
         try clear hcz157_23
         try clear hcz157_3
         try clear hcz157_4
         try clear hcz157_5
         try clear hcz157_6
         try clear hcz157_7
         try clear hcz157_8
         try clear hcz157_9
         try clear hcz160_0
         try clear hcz160_1
         try clear hcz160_2
         try clear hcz160_3
         try clear hcz164_0
         try clear hcz164_1
         try clear hcz164_10
         try clear hcz164_11
         try clear hcz164_12
         try clear hcz164_13
         try clear hcz164_14
         try clear hcz164_15
         try clear hcz164_16
         try clear hcz164_17
         try clear hcz164_18
         try clear hcz164_19
         try clear hcz164_2
         try clear hcz164_20
         try clear hcz164_21
         try clear hcz164_22
         try clear hcz164_23
         try clear hcz164_3
         try clear hcz164_4
         try clear hcz164_5
         try clear hcz164_6
         try clear hcz164_7
         try clear hcz164_8
         try clear hcz164_9
         try clear hcz167_0
         try clear hcz167_1
         try clear hcz167_2
         try clear hcz167_3
         try clear hfz114_9
         try clear hfz117_0
         try clear hfz117_1
         try clear hfz117_2
         try clear hfz117_3
         try clear hfz119_0
         try clear hfz119_1
         try clear hfz119_10
         try clear hfz119_2
         try clear hfz119_3
         try clear hfz119_4
         try clear hfz119_5
         try clear hfz119_6
         try clear hfz119_7
         try clear hfz119_8
         try clear hfz119_9
         try clear hfz121_0
         try clear hfz121_1
         try clear hfz121_2
         try clear hfz121_3
         try clear hfz122_0
         try clear hfz122_1
         try clear hfz122_2
         try clear hfz122_3
         try clear hfz122_4
         try clear hfz122_5
         try clear hfz126_0
         try clear hfz126_1
         try clear hfz126_10
         try clear hfz126_11
         try clear hfz126_12
         try clear hfz126_13
         try clear hfz126_14
         try clear hfz126_15
         try clear hfz126_16
         try clear hfz126_17
         try clear hfz126_18
         try clear hfz126_19
         try clear hfz126_2
         try clear hfz126_20
         try clear hfz126_21
         try clear hfz126_22
         try clear hfz126_23
         try clear hfz126_3
         try clear hfz126_4
         try clear hfz126_5
         try clear hfz126_6
         try clear hfz126_7
         try clear hfz126_8
         try clear hfz126_9
         try clear hfz129_0
         try clear hfz129_1
         try clear hfz129_2
         try clear hfz129_3
         try clear hfz131_0
         try clear hfz131_1
         try clear hfz131_10
         try clear hfz131_2
         try clear hfz131_3
         try clear hfz131_4
         try clear hfz131_5
         try clear hfz131_6
         try clear hfz131_7
         try clear hfz131_8
         try clear hfz131_9
         try clear hfz136_0
         try clear hfz136_1
         try clear hfz136_10
         try clear hfz136_11
         try clear hfz136_12
         try clear hfz136_13
         try clear hfz136_14
         try clear hfz136_15
         try clear hfz136_16
         try clear hfz136_17
         try clear hfz136_18
         try clear hfz136_19
         try clear hfz136_2
         try clear hfz136_20
         try clear hfz136_21
         try clear hfz136_22
         try clear hfz136_23
         try clear hfz136_3
         try clear hfz136_4
         try clear hfz136_5
         try clear hfz136_6
         try clear hfz136_7
         try clear hfz136_8
         try clear hfz136_9
         try clear hfz139_0
         try clear hfz139_1
         try clear hfz139_2
         try clear hfz139_3
         try clear hfz147_0
         try clear hfz147_1
         try clear hfz147_10
         try clear hfz147_11
         try clear hfz147_12
         try clear hfz147_13
         try clear hfz147_14
         try clear hfz147_15
         try clear hfz147_16
         try clear hfz147_17
         try clear hfz147_18
         try clear hfz147_19
         try clear hfz147_2
         try clear hfz147_20
         try clear hfz147_21
         try clear hfz147_22
         try clear hfz147_23
         try clear hfz147_3
         try clear hfz147_4
         try clear hfz147_5
         try clear hfz147_6
         try clear hfz147_7
         try clear hfz147_8
         try clear hfz147_9
         try clear hfz150_0
         try clear hfz150_1
         try clear hfz150_2
         try clear hfz150_3
         try clear hfz157_0
         try clear hfz157_1
         try clear hfz157_10
         try clear hfz157_11
         try clear hfz157_12
         try clear hfz157_13
         try clear hfz157_14
         try clear hfz157_15
         try clear hfz157_16
         try clear hfz157_17
         try clear hfz157_18
         try clear hfz157_19
         try clear hfz157_2
         try clear hfz157_20
         try clear hfz157_21
         try clear hfz157_22
         try clear hfz157_23
         try clear hfz157_3
         try clear hfz157_4
         try clear hfz157_5
         try clear hfz157_6
         try clear hfz157_7
         try clear hfz157_8
         try clear hfz157_9
         try clear hfz160_0
         try clear hfz160_1
         try clear hfz160_2
         try clear hfz160_3
         try clear hfz164_0
         try clear hfz164_1
         try clear hfz164_10
         try clear hfz164_11
         try clear hfz164_12
         try clear hfz164_13
         try clear hfz164_14
         try clear hfz164_15
         try clear hfz164_16
         try clear hfz164_17
         try clear hfz164_18
         try clear hfz164_19
         try clear hfz164_2
         try clear hfz164_20
         try clear hfz164_21
         try clear hfz164_22
         try clear hfz164_23
         try clear hfz164_3
         try clear hfz164_4
         try clear hfz164_5
         try clear hfz164_6
         try clear hfz164_7
         try clear hfz164_8
         try clear hfz164_9
         try clear hfz167_0
         try clear hfz167_1
         try clear hfz167_2
         try clear hfz167_3
         try clear hfz58_2
         try clear hfz58_3
         try clear hfz60_0
         try clear hfz60_1
         try clear hfz60_10
         try clear hfz60_2
         try clear hfz60_3
         try clear hfz60_4
         try clear hfz60_5
         try clear hfz60_6
         try clear hfz60_7
         try clear hfz60_8
         try clear hfz60_9
         try clear hfz62_0
         try clear hfz62_1
         try clear hfz62_2
         try clear hfz62_3
         try clear hfz63_0
         try clear hfz63_1
         try clear hfz63_2
         try clear hfz63_3
         try clear hfz63_4
         try clear hfz63_5
         try clear hfz64_0
         try clear hfz64_1
         try clear hfz64_10
         try clear hfz64_11
         try clear hfz64_12
         try clear hfz64_13
         try clear hfz64_14
         try clear hfz64_15
         try clear hfz64_16
         try clear hfz64_17
         try clear hfz64_18
         try clear hfz64_19
         try clear hfz64_2
         try clear hfz64_20
         try clear hfz64_21
         try clear hfz64_22
         try clear hfz64_23
         try clear hfz64_3
         try clear hfz64_4
         try clear hfz64_5
         try clear hfz64_6
         try clear hfz64_7
         try clear hfz64_8
         try clear hfz64_9
         try clear hfz65_0
         try clear hfz65_1
         try clear hfz65_10
         try clear hfz65_2
         try clear hfz65_3
         try clear hfz65_4
         try clear hfz65_5
         try clear hfz65_6
         try clear hfz65_7
         try clear hfz65_8
         try clear hfz65_9
         try clear hfz71_0
         try clear hfz71_1
         try clear hfz71_10
         try clear hfz71_11
         try clear hfz71_12
         try clear hfz71_13
         try clear hfz71_14
         try clear hfz71_15
         try clear hfz71_16
         try clear hfz71_17
         try clear hfz71_18
         try clear hfz71_19
         try clear hfz71_2
         try clear hfz71_20
         try clear hfz71_21
         try clear hfz71_22
         try clear hfz71_23
         try clear hfz71_3
         try clear hfz71_4
         try clear hfz71_5
         try clear hfz71_6
         try clear hfz71_7
         try clear hfz71_8
         try clear hfz71_9
         try clear hfz74_0
         try clear hfz74_1
         try clear hfz74_2
         try clear hfz74_3
         try clear hfz76_0
         try clear hfz76_1
         try clear hfz76_10
         try clear hfz76_2
         try clear hfz76_3
         try clear hfz76_4
         try clear hfz76_5
         try clear hfz76_6
         try clear hfz76_7
         try clear hfz76_8
         try clear hfz76_9
         try clear hfz78_0
         try clear hfz78_1
         try clear hfz78_2
         try clear hfz78_3
         try clear hfz79_0
         try clear hfz79_1
         try clear hfz79_2
         try clear hfz79_3
         try clear hfz79_4
         try clear hfz79_5
         try clear hfz80_0
         try clear hfz80_1
         try clear hfz80_10
         try clear hfz80_11
         try clear hfz80_12
         try clear hfz80_13
         try clear hfz80_14
         try clear hfz80_15
         try clear hfz80_16
         try clear hfz80_17
         try clear hfz80_18
         try clear hfz80_19
         try clear hfz80_2
         try clear hfz80_20
         try clear hfz80_21
         try clear hfz80_22
         try clear hfz80_23
         try clear hfz80_3
         try clear hfz80_4
         try clear hfz80_5
         try clear hfz80_6
         try clear hfz80_7
         try clear hfz80_8
         try clear hfz80_9
         try clear hfz81_0
         try clear hfz81_1
         try clear hfz81_10
         try clear hfz81_2
         try clear hfz81_3
         try clear hfz81_4
         try clear hfz81_5
         try clear hfz81_6
         try clear hfz81_7
         try clear hfz81_8
         try clear hfz81_9
         try clear hfz83_0
         try clear hfz83_1
         try clear hfz83_10
         try clear hfz83_2
         try clear hfz83_3
         try clear hfz83_4
         try clear hfz83_5
         try clear hfz83_6
         try clear hfz83_7
         try clear hfz83_8
         try clear hfz83_9
         try clear hfz88_0
         try clear hfz88_1
         try clear hfz88_10
         try clear hfz88_11
         try clear hfz88_12
         try clear hfz88_13
         try clear hfz88_14
         try clear hfz88_15
         try clear hfz88_16
         try clear hfz88_17
         try clear hfz88_18
         try clear hfz88_19
         try clear hfz88_2
         try clear hfz88_20
         try clear hfz88_21
         try clear hfz88_22
         try clear hfz88_23
         try clear hfz88_3
         try clear hfz88_4
         try clear hfz88_5
         try clear hfz88_6
         try clear hfz88_7
         try clear hfz88_8
         try clear hfz88_9
         try clear hfz91_0
         try clear hfz91_1
         try clear hfz91_2
         try clear hfz91_3
         try clear hfz93_0
         try clear hfz93_1
         try clear hfz93_10
         try clear hfz93_2
         try clear hfz93_3
         try clear hfz93_4
         try clear hfz93_5
         try clear hfz93_6
         try clear hfz93_7
         try clear hfz93_8
         try clear hfz93_9
         try clear hfz95_0
         try clear hfz95_1
         try clear hfz95_2
         try clear hfz95_3
         try clear hfz96_0
         try clear hfz96_1
         try clear hfz96_2
         try clear hfz96_3
         try clear hfz96_4
         try clear hfz96_5
         try clear hfz97_0
         try clear hfz97_1
         try clear hfz97_10
         try clear hfz97_11
         try clear hfz97_12
         try clear hfz97_13
         try clear hfz97_14
         try clear hfz97_15
         try clear hfz97_16
         try clear hfz97_17
         try clear hfz97_18
         try clear hfz97_19
         try clear hfz97_2
         try clear hfz97_20
         try clear hfz97_21
         try clear hfz97_22
         try clear hfz97_23
         try clear hfz97_3
         try clear hfz97_4
         try clear hfz97_5
         try clear hfz97_6
         try clear hfz97_7
         try clear hfz97_8
         try clear hfz97_9
         obtain ⟨kq, x136_140, rfl, HA, HJ140, BK401, BK402, BK403, BK412, HB⟩ := hcut
         cases kq with
         | zero => exact absurd HA.out (by simp [l24_AcceptOwners.j2])
         | succ kj140 =>
          have H := HA.out
          clear HA
          simp only [l24_AcceptOwners.j2] at H
          by_cases c168 : x136_140 = true
          ·subst c168
           have H1 : (none) = some r := by rw [if_pos rfl] at H; exact H
           clear H
           have H := H1
           clear H1
           exact absurd H (by simp)
          ·replace c168 := Bool.eq_false_iff.mpr c168
           subst c168
           have H1 : ((accept_Check.f kj140 a0_0 a0_1 a0_2 a0_3 a0_4 a0_5 a0_6 a0_7 a0_8 a0_9 l0_10 a1_0 a1_1 a1_2 a1_3 a1_4 a1_5 a1_6 a1_7 a1_8 a1_9 t406 t405 a1_12 a1_13 a1_14 l1_15 l1_16 l1_17 a1_18 a1_19 a1_20 a1_21 a1_22 a1_23 a2 a3_0 a3_1 a3_2 a3_3 a3_4 a3_5).bind fun t422 => (if t422 = 13 then ((l24_known.f kj140).bind fun t423 => (some t423)) else (none))) = some r := by rw [if_neg (show ¬ (false = true) by decide)] at H; exact H
           clear H
           have H := H1
           clear H1
           replace H := Option.bind_eq_some_iff.mp H
           obtain ⟨t422, A1690, H⟩ := H
           replace H : (if t422 = 13 then ((l24_known.f kj140).bind fun t423 => (some t423)) else (none)) = some r := H
           have A169 := Aside0.mk A1690
           clear A1690
           by_cases c170 : t422 = 13
           ·rw [if_pos c170] at H
            have c170b0 : (t422 == 13) = true := beq_iff_eq.mpr c170
            have c170b1 : (t422 != 13) = false := bne_eq_false_iff_eq.mpr c170
            clear c170
            replace H := Option.bind_eq_some_iff.mp H
            obtain ⟨t423, A1710, H⟩ := H
            replace H : (some t423) = some r := H
            have A171 := Aside0.mk A1710
            clear A1710
            obtain rfl := Option.some.inj H
            have hnb172 := NB402_401.out
            have hnc172 := NB401_402.out
            have hnb173 := NB402_403.out
            have hnc173 := NB403_402.out
            have hnb174 := NB402_412.out
            have hnc174 := NB412_402.out
            obtain ⟨hcz175_0, hcz175_1, hcz175_2, hcz175_3, hcz175_4, hcz175_5, hcz175_6, hcz175_7, hcz175_8, hcz175_9, hcz175_10, hcz175_11, hcz175_12, hcz175_13, hcz175_14, hcz175_15, hcz175_16, hcz175_17, hcz175_18, hcz175_19, hcz175_20, hcz175_21, hcz175_22, hcz175_23⟩ := cells_24 BK402.out
            obtain ⟨hfz175_0, hfz175_1, hfz175_2, hfz175_3, hfz175_4, hfz175_5, hfz175_6, hfz175_7, hfz175_8, hfz175_9, hfz175_10, hfz175_11, hfz175_12, hfz175_13, hfz175_14, hfz175_15, hfz175_16, hfz175_17, hfz175_18, hfz175_19, hfz175_20, hfz175_21, hfz175_22, hfz175_23⟩ := frozen_24 BK402.out
            have hnb176 := NB401_403.out
            have hnc176 := NB403_401.out
            have hnb177 := NB401_412.out
            have hnc177 := NB412_401.out
            obtain ⟨hcz178_0, hcz178_1, hcz178_2, hcz178_3, hcz178_4, hcz178_5, hcz178_6, hcz178_7, hcz178_8, hcz178_9, hcz178_10⟩ := cells_11 BK401.out
            obtain ⟨hfz178_0, hfz178_1, hfz178_2, hfz178_3, hfz178_4, hfz178_5, hfz178_6, hfz178_7, hfz178_8, hfz178_9, hfz178_10⟩ := frozen_11 BK401.out
            have hnb179 := NB403_412.out
            have hnc179 := NB412_403.out
            obtain ⟨hcz180_0, hcz180_1, hcz180_2, hcz180_3, hcz180_4, hcz180_5⟩ := cells_6 BK403.out
            obtain ⟨hfz180_0, hfz180_1, hfz180_2, hfz180_3, hfz180_4, hfz180_5⟩ := frozen_6 BK403.out
            go_wp2_with (first | ((with_reducible refine gate_load (t := 24) (x := .tmp 4) rfl ?_); refine load_row_g (cs := ?_) ?hw 24 (.tmp 4) ?h2 gb401 ?hx 24 (fr := (0, 0)) (d := ?_) ?hg ?h3 ?h4 ?hi ?_; (case hw => first | (with_reducible rfl) | (go_simp; done) | rfl); (case h2 => rfl); (case hx => first | (with_reducible rfl) | (go_simp; done) | rfl); (case hg => (with_reducible repeat (first | refine blk_drewN ?_ _ | refine blk_drew ?_ | refine blk_alloc ?_ _)); with_reducible exact BK401.out); (case h3 => exact Try.underlying24); (case h4 => rfl); (case hi => kernel_rfl)) | ((with_reducible refine gate_load (t := 30) (x := .tmp 5) rfl ?_); refine load_row_g (cs := ?_) ?hw 30 (.tmp 5) ?h2 gb402 ?hx 30 (fr := (0, 0)) (d := ?_) ?hg ?h3 ?h4 ?hi ?_; (case hw => first | (with_reducible rfl) | (go_simp; done) | rfl); (case h2 => rfl); (case hx => first | (with_reducible rfl) | (go_simp; done) | rfl); (case hg => (with_reducible repeat (first | refine blk_drewN ?_ _ | refine blk_drew ?_ | refine blk_alloc ?_ _)); with_reducible exact BK402.out); (case h3 => exact Try.underlying30); (case h4 => rfl); (case hi => kernel_rfl)) | ((with_reducible refine gate_load (t := 32) (x := .tmp 7) rfl ?_); refine load_row_g (cs := ?_) ?hw 32 (.tmp 7) ?h2 gb403 ?hx 32 (fr := (0, 0)) (d := ?_) ?hg ?h3 ?h4 ?hi ?_; (case hw => first | (with_reducible rfl) | (go_simp; done) | rfl); (case h2 => rfl); (case hx => first | (with_reducible rfl) | (go_simp; done) | rfl); (case hg => (with_reducible repeat (first | refine blk_drewN ?_ _ | refine blk_drew ?_ | refine blk_alloc ?_ _)); with_reducible exact BK403.out); (case h3 => exact Try.underlying32); (case h4 => rfl); (case hi => kernel_rfl)) | ((with_reducible refine gate_load (t := 24) (x := .tmp 4) rfl ?_); refine load_row_g (cs := #[.int .i64 a0_0, .int .i64 a0_1, .int .i64 a0_2, .int .i64 a0_3, .int .i64 a0_4, .int .i64 a0_5, .int .i64 a0_6, .int .i64 a0_7, .int .i64 a0_8, .int .i64 a0_9, .slice A0_10 l0_10.length c0_10]) ?hw 24 (.tmp 4) ?h2 gb401 ?hx 24 (fr := (0, 0)) (d := ?_) ?hg ?h3 ?h4 ?hi ?_; (case hw => first | (with_reducible rfl) | (go_simp; done) | rfl); (case h2 => rfl); (case hx => first | (with_reducible rfl) | (go_simp; done) | rfl); (case hg => exact (by (iterate 2 ((with_reducible repeat (first | refine blk_drewN ?_ _ | refine blk_drew ?_ | refine blk_alloc ?_ _)); refine blk_far ?_ NB401_402.out _)); (with_reducible repeat (first | refine blk_drewN ?_ _ | refine blk_drew ?_ | refine blk_alloc ?_ _)); exact BK401.out)); (case h3 => exact Try.underlying24); (case h4 => rfl); (case hi => kernel_rfl)) | ((with_reducible refine gate_load (t := 30) (x := .tmp 5) rfl ?_); refine load_row_g (cs := #[.int .i64 a1_0, .int .i64 a1_1, .int .i64 a1_2, .string a1_3, .int .i64 a1_4, .string a1_5, .string a1_6, .int .i64 a1_7, .int .i64 a1_8, .string a1_9, .string t406, .string t405, .string a1_12, .string a1_13, .string a1_14, .slice A1_15 l1_15.length c1_15, .slice A1_16 l1_16.length c1_16, .slice A1_17 l1_17.length c1_17, .int .i64 a1_18, .int .i64 a1_19, .int .i64 a1_20, .int .i64 a1_21, .int .i64 a1_22, .int .i64 a1_23]) ?hw 30 (.tmp 5) ?h2 gb402 ?hx 30 (fr := (0, 0)) (d := ?_) ?hg ?h3 ?h4 ?hi ?_; (case hw => first | (with_reducible rfl) | (go_simp; done) | rfl); (case h2 => rfl); (case hx => first | (with_reducible rfl) | (go_simp; done) | rfl); (case hg => exact (by (with_reducible repeat (first | refine blk_drewN ?_ _ | refine blk_drew ?_ | refine blk_alloc ?_ _)); refine blk_put (cs := #[.int .i64 a1_0, .int .i64 a1_1, .int .i64 a1_2, .string a1_3, .int .i64 a1_4, .string a1_5, .string a1_6, .int .i64 a1_7, .int .i64 a1_8, .string a1_9, .string a1_10, .string t405, .string a1_12, .string a1_13, .string a1_14, .slice A1_15 l1_15.length c1_15, .slice A1_16 l1_16.length c1_16, .slice A1_17 l1_17.length c1_17, .int .i64 a1_18, .int .i64 a1_19, .int .i64 a1_20, .int .i64 a1_21, .int .i64 a1_22, .int .i64 a1_23]) ?_ 10 _ rfl; (with_reducible repeat (first | refine blk_drewN ?_ _ | refine blk_drew ?_ | refine blk_alloc ?_ _)); refine blk_put (cs := #[.int .i64 a1_0, .int .i64 a1_1, .int .i64 a1_2, .string a1_3, .int .i64 a1_4, .string a1_5, .string a1_6, .int .i64 a1_7, .int .i64 a1_8, .string a1_9, .string a1_10, .string a1_11, .string a1_12, .string a1_13, .string a1_14, .slice A1_15 l1_15.length c1_15, .slice A1_16 l1_16.length c1_16, .slice A1_17 l1_17.length c1_17, .int .i64 a1_18, .int .i64 a1_19, .int .i64 a1_20, .int .i64 a1_21, .int .i64 a1_22, .int .i64 a1_23]) ?_ 11 _ rfl; (with_reducible repeat (first | refine blk_drewN ?_ _ | refine blk_drew ?_ | refine blk_alloc ?_ _)); exact BK402.out)); (case h3 => exact Try.underlying30); (case h4 => rfl); (case hi => kernel_rfl)) | ((with_reducible refine gate_load (t := 32) (x := .tmp 7) rfl ?_); refine load_row_g (cs := #[.string a3_0, .int .i64 a3_1, .string a3_2, .int .i64 a3_3, .int .i64 a3_4, .string a3_5]) ?hw 32 (.tmp 7) ?h2 gb403 ?hx 32 (fr := (0, 0)) (d := ?_) ?hg ?h3 ?h4 ?hi ?_; (case hw => first | (with_reducible rfl) | (go_simp; done) | rfl); (case h2 => rfl); (case hx => first | (with_reducible rfl) | (go_simp; done) | rfl); (case hg => exact (by (iterate 2 ((with_reducible repeat (first | refine blk_drewN ?_ _ | refine blk_drew ?_ | refine blk_alloc ?_ _)); refine blk_far ?_ NB403_402.out _)); (with_reducible repeat (first | refine blk_drewN ?_ _ | refine blk_drew ?_ | refine blk_alloc ?_ _)); exact BK403.out)); (case h3 => exact Try.underlying32); (case h4 => rfl); (case hi => kernel_rfl)) | ((with_reducible refine gate_callee (f := 10) rfl ?_); refine goesL_ (some 145) rfl rfl Try.func10 (by kernel_rfl) rfl #[.agg #[.int .i64 a0_0, .int .i64 a0_1, .int .i64 a0_2, .int .i64 a0_3, .int .i64 a0_4, .int .i64 a0_5, .int .i64 a0_6, .int .i64 a0_7, .int .i64 a0_8, .int .i64 a0_9, .slice A0_10 l0_10.length c0_10], .agg #[.int .i64 a1_0, .int .i64 a1_1, .int .i64 a1_2, .string a1_3, .int .i64 a1_4, .string a1_5, .string a1_6, .int .i64 a1_7, .int .i64 a1_8, .string a1_9, .string t406, .string t405, .string a1_12, .string a1_13, .string a1_14, .slice A1_15 l1_15.length c1_15, .slice A1_16 l1_16.length c1_16, .slice A1_17 l1_17.length c1_17, .int .i64 a1_18, .int .i64 a1_19, .int .i64 a1_20, .int .i64 a1_21, .int .i64 a1_22, .int .i64 a1_23], .int .i64 a2, .agg #[.string a3_0, .int .i64 a3_1, .string a3_2, .int .i64 a3_3, .int .i64 a3_4, .string a3_5]] rfl (by (try simp only [List.map_toArray, List.map_cons, List.map_nil]); first | done | rfl) ?_; (with_reducible refine (accept_Check.calls kj140 a0_0 a0_1 a0_2 a0_3 a0_4 a0_5 a0_6 a0_7 a0_8 a0_9 _ _ l0_10 a1_0 a1_1 a1_2 a1_3 a1_4 a1_5 a1_6 a1_7 a1_8 a1_9 t406 t405 a1_12 a1_13 a1_14 _ _ l1_15 _ _ l1_16 _ _ l1_17 a1_18 a1_19 a1_20 a1_21 a1_22 a1_23 a2 a3_0 a3_1 a3_2 a3_3 a3_4 a3_5 t422 _ ?side1 ?side2 ?side3 ?side4 ?side5 ?side6 ?side7 ?side8 A169.out).mono ?_); (case side1 => exact Kd.C_below HR0_10.out (by repeat (first | (with_reducible first | exact HB.out | apply below_alloc | apply pw_below_drewN | apply below_drew1 | refine below_set ?_ GE401.out | refine below_set ?_ GE402.out | refine below_set ?_ GE403.out | refine below_set ?_ GE412.out) | exact HB.out))); (case side2 => exact HC0_10.out); (case side3 => exact Kd.C_below HR1_15.out (by repeat (first | (with_reducible first | exact HB.out | apply below_alloc | apply pw_below_drewN | apply below_drew1 | refine below_set ?_ GE401.out | refine below_set ?_ GE402.out | refine below_set ?_ GE403.out | refine below_set ?_ GE412.out) | exact HB.out))); (case side4 => exact HC1_15.out); (case side5 => exact Kd.C_below HR1_16.out (by repeat (first | (with_reducible first | exact HB.out | apply below_alloc | apply pw_below_drewN | apply below_drew1 | refine below_set ?_ GE401.out | refine below_set ?_ GE402.out | refine below_set ?_ GE403.out | refine below_set ?_ GE412.out) | exact HB.out))); (case side6 => exact HC1_16.out); (case side7 => exact Kd.C_below HR1_17.out (by repeat (first | (with_reducible first | exact HB.out | apply below_alloc | apply pw_below_drewN | apply below_drew1 | refine below_set ?_ GE401.out | refine below_set ?_ GE402.out | refine below_set ?_ GE403.out | refine below_set ?_ GE412.out) | exact HB.out))); (case side8 => exact HC1_17.out); rintro e w181 ⟨rfl, hb⟩; refine ⟨_, rfl, ?_⟩; have n0_ := Aside0.mk (blk_below (g := gb401) (o := .cells #[.int .i64 a0_0, .int .i64 a0_1, .int .i64 a0_2, .int .i64 a0_3, .int .i64 a0_4, .int .i64 a0_5, .int .i64 a0_6, .int .i64 a0_7, .int .i64 a0_8, .int .i64 a0_9, .slice A0_10 l0_10.length c0_10] 24 (0, 0)) (by (iterate 2 ((with_reducible repeat (first | refine blk_drewN ?_ _ | refine blk_drew ?_ | refine blk_alloc ?_ _)); refine blk_far ?_ NB401_402.out _)); (with_reducible repeat (first | refine blk_drewN ?_ _ | refine blk_drew ?_ | refine blk_alloc ?_ _)); exact BK401.out) hb); have n1_ := Aside0.mk (blk_below (g := gb402) (o := .cells #[.int .i64 a1_0, .int .i64 a1_1, .int .i64 a1_2, .string a1_3, .int .i64 a1_4, .string a1_5, .string a1_6, .int .i64 a1_7, .int .i64 a1_8, .string a1_9, .string t406, .string t405, .string a1_12, .string a1_13, .string a1_14, .slice A1_15 l1_15.length c1_15, .slice A1_16 l1_16.length c1_16, .slice A1_17 l1_17.length c1_17, .int .i64 a1_18, .int .i64 a1_19, .int .i64 a1_20, .int .i64 a1_21, .int .i64 a1_22, .int .i64 a1_23] 30 (0, 0)) (by (with_reducible repeat (first | refine blk_drewN ?_ _ | refine blk_drew ?_ | refine blk_alloc ?_ _)); refine blk_put (cs := #[.int .i64 a1_0, .int .i64 a1_1, .int .i64 a1_2, .string a1_3, .int .i64 a1_4, .string a1_5, .string a1_6, .int .i64 a1_7, .int .i64 a1_8, .string a1_9, .string a1_10, .string t405, .string a1_12, .string a1_13, .string a1_14, .slice A1_15 l1_15.length c1_15, .slice A1_16 l1_16.length c1_16, .slice A1_17 l1_17.length c1_17, .int .i64 a1_18, .int .i64 a1_19, .int .i64 a1_20, .int .i64 a1_21, .int .i64 a1_22, .int .i64 a1_23]) ?_ 10 _ rfl; (with_reducible repeat (first | refine blk_drewN ?_ _ | refine blk_drew ?_ | refine blk_alloc ?_ _)); refine blk_put (cs := #[.int .i64 a1_0, .int .i64 a1_1, .int .i64 a1_2, .string a1_3, .int .i64 a1_4, .string a1_5, .string a1_6, .int .i64 a1_7, .int .i64 a1_8, .string a1_9, .string a1_10, .string a1_11, .string a1_12, .string a1_13, .string a1_14, .slice A1_15 l1_15.length c1_15, .slice A1_16 l1_16.length c1_16, .slice A1_17 l1_17.length c1_17, .int .i64 a1_18, .int .i64 a1_19, .int .i64 a1_20, .int .i64 a1_21, .int .i64 a1_22, .int .i64 a1_23]) ?_ 11 _ rfl; (with_reducible repeat (first | refine blk_drewN ?_ _ | refine blk_drew ?_ | refine blk_alloc ?_ _)); exact BK402.out) hb); have n2_ := Aside0.mk (blk_below (g := gb403) (o := .cells #[.string a3_0, .int .i64 a3_1, .string a3_2, .int .i64 a3_3, .int .i64 a3_4, .string a3_5] 32 (0, 0)) (by (iterate 2 ((with_reducible repeat (first | refine blk_drewN ?_ _ | refine blk_drew ?_ | refine blk_alloc ?_ _)); refine blk_far ?_ NB403_402.out _)); (with_reducible repeat (first | refine blk_drewN ?_ _ | refine blk_drew ?_ | refine blk_alloc ?_ _)); exact BK403.out) hb); have n3_ := Aside0.mk (blk_below (g := gb412) (o := .cells #[.int .i64 t407, .int .i64 t408, .int .i64 t409, .string t410] 35 (0, 0)) (by (iterate 2 ((with_reducible repeat (first | refine blk_drewN ?_ _ | refine blk_drew ?_ | refine blk_alloc ?_ _)); refine blk_far ?_ NB412_402.out _)); (with_reducible repeat (first | refine blk_drewN ?_ _ | refine blk_drew ?_ | refine blk_alloc ?_ _)); exact BK412.out) hb); have n4_ := Aside0.mk (below_step (by repeat (first | (with_reducible first | exact HB.out | apply below_alloc | apply pw_below_drewN | apply below_drew1 | refine below_set ?_ GE401.out | refine below_set ?_ GE402.out | refine below_set ?_ GE403.out | refine below_set ?_ GE412.out) | exact HB.out)) hb); clear BK401; clear BK402; clear BK403; clear BK412; clear HB; have BK401 := n0_; have BK402 := n1_; have BK403 := n2_; have BK412 := n3_; have HB := n4_; clear n0_ n1_ n2_ n3_ n4_; (try clear hb)) | (go_at_call 7; (with_reducible refine (l24_known.calls kj140  t423 _ A171.out).mono ?_); rintro e w182 ⟨rfl, hb⟩; have n0_ := Aside0.mk (blk_below (by (with_reducible repeat (first | refine blk_drewN ?_ _ | refine blk_drew ?_ | refine blk_alloc ?_ _)); exact BK401.out) hb); have n1_ := Aside0.mk (blk_below (by (with_reducible repeat (first | refine blk_drewN ?_ _ | refine blk_drew ?_ | refine blk_alloc ?_ _)); exact BK402.out) hb); have n2_ := Aside0.mk (blk_below (by (with_reducible repeat (first | refine blk_drewN ?_ _ | refine blk_drew ?_ | refine blk_alloc ?_ _)); exact BK403.out) hb); have n3_ := Aside0.mk (blk_below (by (with_reducible repeat (first | refine blk_drewN ?_ _ | refine blk_drew ?_ | refine blk_alloc ?_ _)); exact BK412.out) hb); have n4_ := Aside0.mk (below_step (by repeat (first | (with_reducible first | exact HB.out | apply below_alloc | apply pw_below_drewN | apply below_drew1 | refine below_set ?_ GE401.out | refine below_set ?_ GE402.out | refine below_set ?_ GE403.out | refine below_set ?_ GE412.out) | exact HB.out)) hb); clear BK401; clear BK402; clear BK403; clear BK412; clear HB; have BK401 := n0_; have BK402 := n1_; have BK403 := n2_; have BK412 := n3_; have HB := n4_; clear n0_ n1_ n2_ n3_ n4_; (try clear hb)))
            go_ret
            exact ⟨by first | rfl | (simp [*] <;> rfl), by repeat (first | (with_reducible first | exact HB.out | apply below_alloc | apply pw_below_drewN | apply below_drew1 | refine below_set ?_ GE401.out | refine below_set ?_ GE402.out | refine below_set ?_ GE403.out | refine below_set ?_ GE412.out) | exact HB.out)⟩
           ·rw [if_neg c170] at H
            exact absurd H (by simp)
    ·rw [if_neg c20] at H
     have c20b0 : (t411 == 0) = false := beq_eq_false_iff_ne.mpr c20
     have c20b1 : (t411 != 0) = true := bne_iff_ne.mpr c20
     by_cases c183 : t405.toList = ([] : List UInt8)
     ·rw [if_pos c183] at H
      have c183b0 : (t405.toList == ([] : List UInt8)) = true := beq_iff_eq.mpr c183
      have c183b1 : (t405.toList != ([] : List UInt8)) = false := bne_eq_false_iff_eq.mpr c183
      (try (have c183b2 : t405.toList.isEmpty = true := by simpa using c183))
      (try (have c183b3 : (!t405.toList.isEmpty) = false := by simpa using c183))
      clear c183
      by_cases c184 : t406.toList = ([] : List UInt8)
      ·rw [if_pos c184] at H
       have c184b0 : (t406.toList == ([] : List UInt8)) = true := beq_iff_eq.mpr c184
       have c184b1 : (t406.toList != ([] : List UInt8)) = false := bne_eq_false_iff_eq.mpr c184
       (try (have c184b2 : t406.toList.isEmpty = true := by simpa using c184))
       (try (have c184b3 : (!t406.toList.isEmpty) = false := by simpa using c184))
       clear c184
       by_cases c185 : (t407 == 0 && (t408 == 0 && (t409 == 0 && (t410.toList == ([] : List UInt8))))) = true
       ·rw [if_pos c185] at H
        have c185b0 : (t407 == 0 && (t408 == 0 && (t409 == 0 && (t410.toList == ([] : List UInt8))))) = true := c185
        (try (have c185b1 : (t407 == 0 && (t408 == 0 && (t409 == 0 && (t410.toList.isEmpty)))) = true := by simpa using c185))
        (try (have c185b2 : decide (t407 = 0 && (t408 == 0 && (t409 == 0 && (t410.toList == ([] : List UInt8))))) = true := by simpa using c185))
        (try (have c185b3 : (t407 == 0 && (t408 == 0 && (t409 == 0 && (t410.toList == ([] : List UInt8))))) = true := by simpa using c185))
        clear c185
        replace H := Option.bind_eq_some_iff.mp H
        obtain ⟨t413, A1860, H⟩ := H
        replace H : (some t413) = some r := H
        have A186 := Aside0.mk A1860
        clear A1860
        obtain rfl := Option.some.inj H
        have hnb187 := NB401_402.out
        have hnc187 := NB402_401.out
        have hnb188 := NB401_403.out
        have hnc188 := NB403_401.out
        obtain ⟨hcz189_0, hcz189_1, hcz189_2, hcz189_3, hcz189_4, hcz189_5, hcz189_6, hcz189_7, hcz189_8, hcz189_9, hcz189_10⟩ := cells_11 BK401.out
        obtain ⟨hfz189_0, hfz189_1, hfz189_2, hfz189_3, hfz189_4, hfz189_5, hfz189_6, hfz189_7, hfz189_8, hfz189_9, hfz189_10⟩ := frozen_11 BK401.out
        have hnb190 := NB402_403.out
        have hnc190 := NB403_402.out
        obtain ⟨hcz191_0, hcz191_1, hcz191_2, hcz191_3, hcz191_4, hcz191_5, hcz191_6, hcz191_7, hcz191_8, hcz191_9, hcz191_10, hcz191_11, hcz191_12, hcz191_13, hcz191_14, hcz191_15, hcz191_16, hcz191_17, hcz191_18, hcz191_19, hcz191_20, hcz191_21, hcz191_22, hcz191_23⟩ := cells_24 BK402.out
        obtain ⟨hfz191_0, hfz191_1, hfz191_2, hfz191_3, hfz191_4, hfz191_5, hfz191_6, hfz191_7, hfz191_8, hfz191_9, hfz191_10, hfz191_11, hfz191_12, hfz191_13, hfz191_14, hfz191_15, hfz191_16, hfz191_17, hfz191_18, hfz191_19, hfz191_20, hfz191_21, hfz191_22, hfz191_23⟩ := frozen_24 BK402.out
        obtain ⟨hcz192_0, hcz192_1, hcz192_2, hcz192_3, hcz192_4, hcz192_5⟩ := cells_6 BK403.out
        obtain ⟨hfz192_0, hfz192_1, hfz192_2, hfz192_3, hfz192_4, hfz192_5⟩ := frozen_6 BK403.out
        go_wp2_with (first | ((with_reducible refine gate_load (t := 24) (x := .tmp 4) rfl ?_); refine load_row_g (cs := ?_) ?hw 24 (.tmp 4) ?h2 gb401 ?hx 24 (fr := (0, 0)) (d := ?_) ?hg ?h3 ?h4 ?hi ?_; (case hw => first | (with_reducible rfl) | (go_simp; done) | rfl); (case h2 => rfl); (case hx => first | (with_reducible rfl) | (go_simp; done) | rfl); (case hg => (with_reducible repeat (first | refine blk_drewN ?_ _ | refine blk_drew ?_ | refine blk_alloc ?_ _)); with_reducible exact BK401.out); (case h3 => exact Try.underlying24); (case h4 => rfl); (case hi => kernel_rfl)) | ((with_reducible refine gate_load (t := 30) (x := .tmp 5) rfl ?_); refine load_row_g (cs := ?_) ?hw 30 (.tmp 5) ?h2 gb402 ?hx 30 (fr := (0, 0)) (d := ?_) ?hg ?h3 ?h4 ?hi ?_; (case hw => first | (with_reducible rfl) | (go_simp; done) | rfl); (case h2 => rfl); (case hx => first | (with_reducible rfl) | (go_simp; done) | rfl); (case hg => (with_reducible repeat (first | refine blk_drewN ?_ _ | refine blk_drew ?_ | refine blk_alloc ?_ _)); with_reducible exact BK402.out); (case h3 => exact Try.underlying30); (case h4 => rfl); (case hi => kernel_rfl)) | ((with_reducible refine gate_load (t := 32) (x := .tmp 7) rfl ?_); refine load_row_g (cs := ?_) ?hw 32 (.tmp 7) ?h2 gb403 ?hx 32 (fr := (0, 0)) (d := ?_) ?hg ?h3 ?h4 ?hi ?_; (case hw => first | (with_reducible rfl) | (go_simp; done) | rfl); (case h2 => rfl); (case hx => first | (with_reducible rfl) | (go_simp; done) | rfl); (case hg => (with_reducible repeat (first | refine blk_drewN ?_ _ | refine blk_drew ?_ | refine blk_alloc ?_ _)); with_reducible exact BK403.out); (case h3 => exact Try.underlying32); (case h4 => rfl); (case hi => kernel_rfl)) | ((with_reducible refine gate_load (t := 24) (x := .tmp 4) rfl ?_); refine load_row_g (cs := #[.int .i64 a0_0, .int .i64 a0_1, .int .i64 a0_2, .int .i64 a0_3, .int .i64 a0_4, .int .i64 a0_5, .int .i64 a0_6, .int .i64 a0_7, .int .i64 a0_8, .int .i64 a0_9, .slice A0_10 l0_10.length c0_10]) ?hw 24 (.tmp 4) ?h2 gb401 ?hx 24 (fr := (0, 0)) (d := ?_) ?hg ?h3 ?h4 ?hi ?_; (case hw => first | (with_reducible rfl) | (go_simp; done) | rfl); (case h2 => rfl); (case hx => first | (with_reducible rfl) | (go_simp; done) | rfl); (case hg => exact (by (iterate 4 ((with_reducible repeat (first | refine blk_drewN ?_ _ | refine blk_drew ?_ | refine blk_alloc ?_ _)); refine blk_far ?_ NB401_412.out _)); (with_reducible repeat (first | refine blk_drewN ?_ _ | refine blk_drew ?_ | refine blk_alloc ?_ _)); exact BK401.out)); (case h3 => exact Try.underlying24); (case h4 => rfl); (case hi => kernel_rfl)) | ((with_reducible refine gate_load (t := 30) (x := .tmp 5) rfl ?_); refine load_row_g (cs := #[.int .i64 a1_0, .int .i64 a1_1, .int .i64 a1_2, .string a1_3, .int .i64 a1_4, .string a1_5, .string a1_6, .int .i64 a1_7, .int .i64 a1_8, .string a1_9, .string a1_10, .string a1_11, .string a1_12, .string a1_13, .string a1_14, .slice A1_15 l1_15.length c1_15, .slice A1_16 l1_16.length c1_16, .slice A1_17 l1_17.length c1_17, .int .i64 a1_18, .int .i64 a1_19, .int .i64 a1_20, .int .i64 a1_21, .int .i64 a1_22, .int .i64 a1_23]) ?hw 30 (.tmp 5) ?h2 gb402 ?hx 30 (fr := (0, 0)) (d := ?_) ?hg ?h3 ?h4 ?hi ?_; (case hw => first | (with_reducible rfl) | (go_simp; done) | rfl); (case h2 => rfl); (case hx => first | (with_reducible rfl) | (go_simp; done) | rfl); (case hg => exact (by (iterate 4 ((with_reducible repeat (first | refine blk_drewN ?_ _ | refine blk_drew ?_ | refine blk_alloc ?_ _)); refine blk_far ?_ NB402_412.out _)); (with_reducible repeat (first | refine blk_drewN ?_ _ | refine blk_drew ?_ | refine blk_alloc ?_ _)); exact BK402.out)); (case h3 => exact Try.underlying30); (case h4 => rfl); (case hi => kernel_rfl)) | ((with_reducible refine gate_load (t := 32) (x := .tmp 7) rfl ?_); refine load_row_g (cs := #[.string a3_0, .int .i64 a3_1, .string a3_2, .int .i64 a3_3, .int .i64 a3_4, .string a3_5]) ?hw 32 (.tmp 7) ?h2 gb403 ?hx 32 (fr := (0, 0)) (d := ?_) ?hg ?h3 ?h4 ?hi ?_; (case hw => first | (with_reducible rfl) | (go_simp; done) | rfl); (case h2 => rfl); (case hx => first | (with_reducible rfl) | (go_simp; done) | rfl); (case hg => exact (by (iterate 4 ((with_reducible repeat (first | refine blk_drewN ?_ _ | refine blk_drew ?_ | refine blk_alloc ?_ _)); refine blk_far ?_ NB403_412.out _)); (with_reducible repeat (first | refine blk_drewN ?_ _ | refine blk_drew ?_ | refine blk_alloc ?_ _)); exact BK403.out)); (case h3 => exact Try.underlying32); (case h4 => rfl); (case hi => kernel_rfl)) | ((with_reducible refine gate_callee (f := 8) rfl ?_); refine goesL_ (some 30) rfl rfl Try.func8 (by kernel_rfl) rfl #[.agg #[.int .i64 a0_0, .int .i64 a0_1, .int .i64 a0_2, .int .i64 a0_3, .int .i64 a0_4, .int .i64 a0_5, .int .i64 a0_6, .int .i64 a0_7, .int .i64 a0_8, .int .i64 a0_9, .slice A0_10 l0_10.length c0_10], .agg #[.int .i64 a1_0, .int .i64 a1_1, .int .i64 a1_2, .string a1_3, .int .i64 a1_4, .string a1_5, .string a1_6, .int .i64 a1_7, .int .i64 a1_8, .string a1_9, .string a1_10, .string a1_11, .string a1_12, .string a1_13, .string a1_14, .slice A1_15 l1_15.length c1_15, .slice A1_16 l1_16.length c1_16, .slice A1_17 l1_17.length c1_17, .int .i64 a1_18, .int .i64 a1_19, .int .i64 a1_20, .int .i64 a1_21, .int .i64 a1_22, .int .i64 a1_23], .int .i64 a2, .agg #[.string a3_0, .int .i64 a3_1, .string a3_2, .int .i64 a3_3, .int .i64 a3_4, .string a3_5]] rfl (by (try simp only [List.map_toArray, List.map_cons, List.map_nil]); first | done | rfl) ?_; (with_reducible refine (accept_Take.calls kj4 a0_0 a0_1 a0_2 a0_3 a0_4 a0_5 a0_6 a0_7 a0_8 a0_9 _ _ l0_10 a1_0 a1_1 a1_2 a1_3 a1_4 a1_5 a1_6 a1_7 a1_8 a1_9 a1_10 a1_11 a1_12 a1_13 a1_14 _ _ l1_15 _ _ l1_16 _ _ l1_17 a1_18 a1_19 a1_20 a1_21 a1_22 a1_23 a2 a3_0 a3_1 a3_2 a3_3 a3_4 a3_5 t405 t406 t407 t408 t409 t410 t411 _ ?side1 ?side2 ?side3 ?side4 ?side5 ?side6 ?side7 ?side8 A19.out).mono ?_); (case side1 => repeat (first | exact (Kd.C_below HR0_10.out HB.out) | (with_reducible refine Kd.C_alloc ?_ _) | (with_reducible refine Kd.C_drewN ?_ _) | (with_reducible refine Kd.C_drew ?_))); (case side2 => exact HC0_10.out); (case side3 => repeat (first | exact (Kd.C_below HR1_15.out HB.out) | (with_reducible refine Kd.C_alloc ?_ _) | (with_reducible refine Kd.C_drewN ?_ _) | (with_reducible refine Kd.C_drew ?_))); (case side4 => exact HC1_15.out); (case side5 => repeat (first | exact (Kd.C_below HR1_16.out HB.out) | (with_reducible refine Kd.C_alloc ?_ _) | (with_reducible refine Kd.C_drewN ?_ _) | (with_reducible refine Kd.C_drew ?_))); (case side6 => exact HC1_16.out); (case side7 => repeat (first | exact (Kd.C_below HR1_17.out HB.out) | (with_reducible refine Kd.C_alloc ?_ _) | (with_reducible refine Kd.C_drewN ?_ _) | (with_reducible refine Kd.C_drew ?_))); (case side8 => exact HC1_17.out); rintro e w193 ⟨rfl, hb⟩; refine ⟨_, rfl, ?_⟩; have n0_ := Aside0.mk (blk_below (by (with_reducible repeat (first | refine blk_drewN ?_ _ | refine blk_drew ?_ | refine blk_alloc ?_ _)); exact BK401.out) hb); have n1_ := Aside0.mk (blk_below (by (with_reducible repeat (first | refine blk_drewN ?_ _ | refine blk_drew ?_ | refine blk_alloc ?_ _)); exact BK402.out) hb); have n2_ := Aside0.mk (blk_below (by (with_reducible repeat (first | refine blk_drewN ?_ _ | refine blk_drew ?_ | refine blk_alloc ?_ _)); exact BK403.out) hb); have n3_ := Aside0.mk (below_step (by repeat (first | (with_reducible first | exact HB.out | apply below_alloc | apply pw_below_drewN | apply below_drew1 | refine below_set ?_ GE401.out | refine below_set ?_ GE402.out | refine below_set ?_ GE403.out) | exact HB.out)) hb); clear BK401; clear BK402; clear BK403; clear HB; have BK401 := n0_; have BK402 := n1_; have BK403 := n2_; have HB := n3_; clear n0_ n1_ n2_ n3_; (try clear hb)) | ((with_reducible refine gate_dst (N := 11) rfl ?_); (try (refine gate_guard (by rfl) ?_; dsimp only)); refine box_event ?hg (N := 11) ?hd (cs := #[.int .i64 0, .int .i64 0, .int .i64 0, .string (⟨#[]⟩ : ByteArray)]) (t := 35) ?hr ?_; (case hd => rfl); (case hg => rfl); (case hr => first | (go_simp; done) | (go_simp; rfl)); intro gb412 hg w194 hbox hb; have n0_ := Aside0.mk (blk_below (by (with_reducible repeat (first | refine blk_drewN ?_ _ | refine blk_drew ?_ | refine blk_alloc ?_ _)); exact BK401.out) hb); have n1_ := Aside0.mk (blk_below (by (with_reducible repeat (first | refine blk_drewN ?_ _ | refine blk_drew ?_ | refine blk_alloc ?_ _)); exact BK402.out) hb); have n2_ := Aside0.mk (blk_below (by (with_reducible repeat (first | refine blk_drewN ?_ _ | refine blk_drew ?_ | refine blk_alloc ?_ _)); exact BK403.out) hb); have n3_ := Aside0.mk (below_step (by repeat (first | (with_reducible first | exact HB.out | apply below_alloc | apply pw_below_drewN | apply below_drew1 | refine below_set ?_ GE401.out | refine below_set ?_ GE402.out | refine below_set ?_ GE403.out) | exact HB.out)) hb); have n4_ := Aside0.mk (hbox); have n5_ := Aside0.mk ((by rw [hg]; exact (below_size (by repeat (first | (with_reducible first | exact HB.out | apply below_alloc | apply pw_below_drewN | apply below_drew1 | refine below_set ?_ GE401.out | refine below_set ?_ GE402.out | refine below_set ?_ GE403.out) | exact HB.out))) : w.heap.size ≤ gb412)); have n6_ := Aside0.mk ((by rw [hg]; exact (below_size (by repeat (first | (with_reducible first | exact HB.out | apply below_alloc | apply pw_below_drewN | apply below_drew1 | refine below_set ?_ GE401.out | refine below_set ?_ GE402.out | refine below_set ?_ GE403.out) | exact HB.out))) : w.heap.size ≤ gb412)); have n7_ := Aside0.mk ((by rw [hg]; exact Nat.ne_of_lt (blk_lt (by (with_reducible repeat (first | refine blk_drewN ?_ _ | refine blk_drew ?_ | refine blk_alloc ?_ _)); exact BK401.out)) : gb401 ≠ gb412)); have n8_ := Aside0.mk ((by rw [hg]; exact Nat.ne_of_gt (blk_lt (by (with_reducible repeat (first | refine blk_drewN ?_ _ | refine blk_drew ?_ | refine blk_alloc ?_ _)); exact BK401.out)) : gb412 ≠ gb401)); have n9_ := Aside0.mk ((by rw [hg]; exact Nat.ne_of_lt (blk_lt (by (with_reducible repeat (first | refine blk_drewN ?_ _ | refine blk_drew ?_ | refine blk_alloc ?_ _)); exact BK402.out)) : gb402 ≠ gb412)); have n10_ := Aside0.mk ((by rw [hg]; exact Nat.ne_of_gt (blk_lt (by (with_reducible repeat (first | refine blk_drewN ?_ _ | refine blk_drew ?_ | refine blk_alloc ?_ _)); exact BK402.out)) : gb412 ≠ gb402)); have n11_ := Aside0.mk ((by rw [hg]; exact Nat.ne_of_lt (blk_lt (by (with_reducible repeat (first | refine blk_drewN ?_ _ | refine blk_drew ?_ | refine blk_alloc ?_ _)); exact BK403.out)) : gb403 ≠ gb412)); have n12_ := Aside0.mk ((by rw [hg]; exact Nat.ne_of_gt (blk_lt (by (with_reducible repeat (first | refine blk_drewN ?_ _ | refine blk_drew ?_ | refine blk_alloc ?_ _)); exact BK403.out)) : gb412 ≠ gb403)); clear BK401; clear BK402; clear BK403; clear HB; have BK401 := n0_; have BK402 := n1_; have BK403 := n2_; have HB := n3_; have BK412 := n4_; have GW412 := n5_; have GE412 := n6_; have NB401_412 := n7_; have NB412_401 := n8_; have NB402_412 := n9_; have NB412_402 := n10_; have NB403_412 := n11_; have NB412_403 := n12_; clear n0_ n1_ n2_ n3_ n4_ n5_ n6_ n7_ n8_ n9_ n10_ n11_ n12_; clear hb hbox hg; have hnb195 := NB412_401.out; have hnc195 := NB401_412.out; have hnb196 := NB412_402.out; have hnc196 := NB402_412.out; have hnb197 := NB412_403.out; have hnc197 := NB403_412.out; obtain ⟨hcz198_0, hcz198_1, hcz198_2, hcz198_3⟩ := cells_4 BK412.out; obtain ⟨hfz198_0, hfz198_1, hfz198_2, hfz198_3⟩ := frozen_4 BK412.out) | (go_at_call 7; (with_reducible refine (l24_known.calls kj4  t413 _ A186.out).mono ?_); rintro e w199 ⟨rfl, hb⟩; have n0_ := Aside0.mk (blk_below (g := gb401) (o := .cells #[.int .i64 a0_0, .int .i64 a0_1, .int .i64 a0_2, .int .i64 a0_3, .int .i64 a0_4, .int .i64 a0_5, .int .i64 a0_6, .int .i64 a0_7, .int .i64 a0_8, .int .i64 a0_9, .slice A0_10 l0_10.length c0_10] 24 (0, 0)) (by (iterate 4 ((with_reducible repeat (first | refine blk_drewN ?_ _ | refine blk_drew ?_ | refine blk_alloc ?_ _)); refine blk_far ?_ NB401_412.out _)); (with_reducible repeat (first | refine blk_drewN ?_ _ | refine blk_drew ?_ | refine blk_alloc ?_ _)); exact BK401.out) hb); have n1_ := Aside0.mk (blk_below (g := gb402) (o := .cells #[.int .i64 a1_0, .int .i64 a1_1, .int .i64 a1_2, .string a1_3, .int .i64 a1_4, .string a1_5, .string a1_6, .int .i64 a1_7, .int .i64 a1_8, .string a1_9, .string a1_10, .string a1_11, .string a1_12, .string a1_13, .string a1_14, .slice A1_15 l1_15.length c1_15, .slice A1_16 l1_16.length c1_16, .slice A1_17 l1_17.length c1_17, .int .i64 a1_18, .int .i64 a1_19, .int .i64 a1_20, .int .i64 a1_21, .int .i64 a1_22, .int .i64 a1_23] 30 (0, 0)) (by (iterate 4 ((with_reducible repeat (first | refine blk_drewN ?_ _ | refine blk_drew ?_ | refine blk_alloc ?_ _)); refine blk_far ?_ NB402_412.out _)); (with_reducible repeat (first | refine blk_drewN ?_ _ | refine blk_drew ?_ | refine blk_alloc ?_ _)); exact BK402.out) hb); have n2_ := Aside0.mk (blk_below (g := gb403) (o := .cells #[.string a3_0, .int .i64 a3_1, .string a3_2, .int .i64 a3_3, .int .i64 a3_4, .string a3_5] 32 (0, 0)) (by (iterate 4 ((with_reducible repeat (first | refine blk_drewN ?_ _ | refine blk_drew ?_ | refine blk_alloc ?_ _)); refine blk_far ?_ NB403_412.out _)); (with_reducible repeat (first | refine blk_drewN ?_ _ | refine blk_drew ?_ | refine blk_alloc ?_ _)); exact BK403.out) hb); have n3_ := Aside0.mk (blk_below (g := gb412) (o := .cells #[.int .i64 t407, .int .i64 t408, .int .i64 t409, .string t410] 35 (0, 0)) (by (with_reducible repeat (first | refine blk_drewN ?_ _ | refine blk_drew ?_ | refine blk_alloc ?_ _)); refine blk_put (cs := #[.int .i64 t407, .int .i64 t408, .int .i64 t409, .string (⟨#[]⟩ : ByteArray)]) ?_ 3 _ rfl; (with_reducible repeat (first | refine blk_drewN ?_ _ | refine blk_drew ?_ | refine blk_alloc ?_ _)); refine blk_put (cs := #[.int .i64 t407, .int .i64 t408, .int .i64 0, .string (⟨#[]⟩ : ByteArray)]) ?_ 2 _ rfl; (with_reducible repeat (first | refine blk_drewN ?_ _ | refine blk_drew ?_ | refine blk_alloc ?_ _)); refine blk_put (cs := #[.int .i64 t407, .int .i64 0, .int .i64 0, .string (⟨#[]⟩ : ByteArray)]) ?_ 1 _ rfl; (with_reducible repeat (first | refine blk_drewN ?_ _ | refine blk_drew ?_ | refine blk_alloc ?_ _)); refine blk_put (cs := #[.int .i64 0, .int .i64 0, .int .i64 0, .string (⟨#[]⟩ : ByteArray)]) ?_ 0 _ rfl; (with_reducible repeat (first | refine blk_drewN ?_ _ | refine blk_drew ?_ | refine blk_alloc ?_ _)); exact BK412.out) hb); have n4_ := Aside0.mk (below_step (by repeat (first | (with_reducible first | exact HB.out | apply below_alloc | apply pw_below_drewN | apply below_drew1 | refine below_set ?_ GE401.out | refine below_set ?_ GE402.out | refine below_set ?_ GE403.out | refine below_set ?_ GE412.out) | exact HB.out)) hb); clear BK401; clear BK402; clear BK403; clear BK412; clear HB; have BK401 := n0_; have BK402 := n1_; have BK403 := n2_; have BK412 := n3_; have HB := n4_; clear n0_ n1_ n2_ n3_ n4_; (try clear hb)))
        go_ret
        exact ⟨by first | rfl | (simp [*] <;> rfl), by repeat (first | (with_reducible first | exact HB.out | apply below_alloc | apply pw_below_drewN | apply below_drew1 | refine below_set ?_ GE401.out | refine below_set ?_ GE402.out | refine below_set ?_ GE403.out | refine below_set ?_ GE412.out) | exact HB.out)⟩
       ·rw [if_neg c185] at H
        exact absurd H (by simp)
      ·rw [if_neg c184] at H
       exact absurd H (by simp)
     ·rw [if_neg c183] at H
      exact absurd H (by simp)
end Go.Proofs.Ytebflimijebbnaa.Gn
