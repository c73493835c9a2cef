import Derived.Test.YtcdlielgifkemaaProg
import Derived.Below
import Derived.Deep.Draws
import Derived.Deep.AppendLies
import Derived.Maps.AppendAt
import Derived.OwnWalk
import Derived.Laws.BytesArg
import Derived.Laws.MakeOwn
import Derived.Laws.OwnMore
import Derived.Deep.OwnRows
import Derived.Tactics
import Derived.Lib.ConvBytes
import Derived.Laws.Slices
import Derived.WalkKit
import Derived.KernelRfl
import Derived.RowKit3
import Derived.Deep.LoopGhost
import Derived.Deep.QuietTactic
import Derived.BigQuiet
import Derived.WideLaws
import Derived.Deep.DeepCutAuto
import Derived.Deep.CutBlock
import Derived.Deep.RegionHeld3
import Derived.Laws.Rows
import Derived.Lib.AppendStr
import Derived.ArgAppend
import Derived.Laws.IdiomCopy
import Derived.OrdersHeld
import Derived.Laws.BitsLemmas
import Derived.RowKit
import Derived.Test.YtcdlielgifkemaaWWords
import Derived.Test.YtcdlielgifkemaaWLast
import Derived.Test.YtcdlielgifkemaaWMore
import Derived.Test.YtcdlielgifkemaaRm
import Derived.Test.YtcdlielgifkemaaNf
import Derived.Test.YtcdlielgifkemaaQz
import Derived.Test.YtcdlielgifkemaaWl
import Derived.Test.YtcdlielgifkemaaWn
-- Written by a program of this session (wip/tools/pp.py) out of the translation; Lean checks it.
namespace Go.Proofs.Ytcdlielgifkemaa.U
open Go.RowKit Go.Proofs.YtcdlielgifkemaaW.PrintWords Go.Proofs.YtcdlielgifkemaaW.PrintLast Go.Proofs.YtcdlielgifkemaaW.PrintMore
open Go.Proofs.Ytcdlielgifkemaa.S
attribute [local go_sem] max2_int min2_int max_two min_two max_three min_three max_four min_four   -- for this text's walks alone
set_option linter.unusedVariables false
set_option linter.unusedSimpArgs false



def errW : Option Int → Value
  | none => .nilIface
  | some c => .iface 0 (.int .i64 c)
theorem errW_none : errW none = .nilIface := rfl
theorem errW_some (c : Int) : errW (some c) = .iface 0 (.int .i64 c) := rfl

theorem info3 : (Try.prog.info? 3).map (fun i => (i.zero, i.size, i.bytes)) = some (some (.int .i64 0), 1, 8) := by kernel_rfl
-- the values' own types

end Go.Proofs.Ytcdlielgifkemaa.U

-- Written by a program of this session (wip/tools/pp.py) out of the translation; Lean checks it.
namespace Go.Proofs.Ytcdlielgifkemaa.U
open Go.RowKit Go.Proofs.YtcdlielgifkemaaW.PrintWords Go.Proofs.YtcdlielgifkemaaW.PrintLast Go.Proofs.YtcdlielgifkemaaW.PrintMore
open Go.Proofs.Ytcdlielgifkemaa.S
attribute [local go_sem] max2_int min2_int max_two min_two max_three min_three max_four min_four   -- for this text's walks alone
open Bool renaming true → Z, false → O
set_option linter.unusedVariables false
set_option linter.unusedSimpArgs false

/-! ### bournelaw26_RainEncloses: function 7 -/
mutual
def bournelaw26_RainEncloses.j0 : Nat → List Int → List Int → Int → List (S63) → Bool → Bool → ByteArray → List ByteArray → Int → List (S47) → List (S104) → List (S106) → List (S67) → List (S108) → List (S110) → List Int → Int → Option (Bool)
 | 0, _, _, _, _, _, _, _, _, _, _, _, _, _, _, _, _, _ => none
 | k + 1, x1, x2, x3, x4, x11, x49, x102000, x102001, x102002, x102003, x102004, x102005, x102006, x102007, x102008, x102009, x102010 => if x49 = true then (some x11) else (bournelaw26_RainEncloses.l0 k x1 x2 x3 x4 x11 ([] : List Int) 0 x102000 x102001 x102002 x102003 x102004 x102005 x102006 x102007 x102008 x102009 x102010)
def bournelaw26_RainEncloses.l0 : Nat → List Int → List Int → Int → List (S63) → Bool → List Int → Int → ByteArray → List ByteArray → Int → List (S47) → List (S104) → List (S106) → List (S67) → List (S108) → List (S110) → List Int → Int → Option (Bool)
 | 0, _, _, _, _, _, _, _, _, _, _, _, _, _, _, _, _, _, _ => none
 | k + 1, x1, x2, x3, x4, x11, x13, x14, x102000, x102001, x102002, x102003, x102004, x102005, x102006, x102007, x102008, x102009, x102010 => if x14 < (x1.length : Int) then (if 0 ≤ x14 then (if (rd x1 x14) < 0 then (bournelaw26_RainEncloses.j2 k x1 x2 x3 x4 x11 x13 x14 true x102000 x102001 x102002 x102003 x102004 x102005 x102006 x102007 x102008 x102009 x102010) else (bournelaw26_RainEncloses.j2 k x1 x2 x3 x4 x11 x13 x14 (decide ((rd x1 x14) > 1099511627776)) x102000 x102001 x102002 x102003 x102004 x102005 x102006 x102007 x102008 x102009 x102010)) else (none)) else ((rain_Cells.f x102000 x102001 x102002 x102003 x102004 x102005 x102006 x102007 x102008 x102009 x102010 x13 x3 x4).bind fun t121 => (bournelaw26_RainEncloses.l2 k x1 x11 t121 0 x102000 x102001 x102002 x102003 x102004 x102005 x102006 x102007 x102008 x102009 x102010))
def bournelaw26_RainEncloses.j2 : Nat → List Int → List Int → Int → List (S63) → Bool → List Int → Int → Bool → ByteArray → List ByteArray → Int → List (S47) → List (S104) → List (S106) → List (S67) → List (S108) → List (S110) → List Int → Int → Option (Bool)
 | 0, _, _, _, _, _, _, _, _, _, _, _, _, _, _, _, _, _, _, _ => none
 | k + 1, x1, x2, x3, x4, x11, x13, x14, x68, x102000, x102001, x102002, x102003, x102004, x102005, x102006, x102007, x102008, x102009, x102010 => if x68 = true then (some x11) else (if 0 ≤ x14 then (if x14 < (x1.length : Int) then (if x14 < (x2.length : Int) then ((exact_Add.f (rd x1 x14) (rd x2 x14)).bind fun t108 => ((exact_Clamp.f t108 0 2199023255552).bind fun t109 => (bournelaw26_RainEncloses.j3 k x1 x2 x3 x4 x11 x13 x14 t109 x102000 x102001 x102002 x102003 x102004 x102005 x102006 x102007 x102008 x102009 x102010))) else (bournelaw26_RainEncloses.j3 k x1 x2 x3 x4 x11 x13 x14 (rd x1 x14) x102000 x102001 x102002 x102003 x102004 x102005 x102006 x102007 x102008 x102009 x102010)) else (none)) else (none))
def bournelaw26_RainEncloses.j3 : Nat → List Int → List Int → Int → List (S63) → Bool → List Int → Int → Int → ByteArray → List ByteArray → Int → List (S47) → List (S104) → List (S106) → List (S67) → List (S108) → List (S110) → List Int → Int → Option (Bool)
 | 0, _, _, _, _, _, _, _, _, _, _, _, _, _, _, _, _, _, _, _ => none
 | k + 1, x1, x2, x3, x4, x11, x13, x14, x15, x102000, x102001, x102002, x102003, x102004, x102005, x102006, x102007, x102008, x102009, x102010 => if 0 ≤ x14 then (if x14 < (x1.length : Int) then (if (wrap64 (1000 * (mx (wrap64 (x15 - (rd x1 x14))) (wrap64 ((rd x1 x14) - x15))))) > (wrap64 (x3 * x15)) then (bournelaw26_RainEncloses.j4 k x1 x2 x3 x4 x11 x13 x14 (rd x1 x14) x102000 x102001 x102002 x102003 x102004 x102005 x102006 x102007 x102008 x102009 x102010) else (bournelaw26_RainEncloses.j4 k x1 x2 x3 x4 x11 x13 x14 x15 x102000 x102001 x102002 x102003 x102004 x102005 x102006 x102007 x102008 x102009 x102010)) else (none)) else (none)
def bournelaw26_RainEncloses.j4 : Nat → List Int → List Int → Int → List (S63) → Bool → List Int → Int → Int → ByteArray → List ByteArray → Int → List (S47) → List (S104) → List (S106) → List (S67) → List (S108) → List (S110) → List Int → Int → Option (Bool)
 | 0, _, _, _, _, _, _, _, _, _, _, _, _, _, _, _, _, _, _, _ => none
 | k + 1, x1, x2, x3, x4, x11, x13, x14, x15, x102000, x102001, x102002, x102003, x102004, x102005, x102006, x102007, x102008, x102009, x102010 => if x13.length < 17592186044416 then (bournelaw26_RainEncloses.l1 k x1 x2 x3 x4 x11 (x13 ++ [x15]) x14 0 x102000 x102001 x102002 x102003 x102004 x102005 x102006 x102007 x102008 x102009 x102010) else (none)
def bournelaw26_RainEncloses.l1 : Nat → List Int → List Int → Int → List (S63) → Bool → List Int → Int → Int → ByteArray → List ByteArray → Int → List (S47) → List (S104) → List (S106) → List (S67) → List (S108) → List (S110) → List Int → Int → Option (Bool)
 | 0, _, _, _, _, _, _, _, _, _, _, _, _, _, _, _, _, _, _, _ => none
 | k + 1, x1, x2, x3, x4, x11, x13, x14, x16, x102000, x102001, x102002, x102003, x102004, x102005, x102006, x102007, x102008, x102009, x102010 => if x16 < (x4.length : Int) then (if 0 ≤ x16 then ((bourneref26_Of.f x102000 x102001 x102002 x102003 x102004 x102005 x102006 x102007 x102008 x102009 x102010 ((rd_T63 x4 x16).f0) ((rd_T63 x4 x16).f1) ((rd_T63 x4 x16).f2.f0) ((rd_T63 x4 x16).f2.f1) x14).bind fun t117 => (if t117 = true then (if 0 ≤ x14 then (if x14 < (x1.length : Int) then ((span_Has.f ((rd_T63 x4 x16).f2.f0) ((rd_T63 x4 x16).f2.f1) (rd x1 x14)).bind fun t120 => (if t120 = true then (bournelaw26_RainEncloses.l1 k x1 x2 x3 x4 x11 x13 x14 (wrap64 (x16 + 1)) x102000 x102001 x102002 x102003 x102004 x102005 x102006 x102007 x102008 x102009 x102010) else (some x11))) else (none)) else (none)) else (bournelaw26_RainEncloses.l1 k x1 x2 x3 x4 x11 x13 x14 (wrap64 (x16 + 1)) x102000 x102001 x102002 x102003 x102004 x102005 x102006 x102007 x102008 x102009 x102010))) else (none)) else (bournelaw26_RainEncloses.l0 k x1 x2 x3 x4 x11 x13 (wrap64 (x14 + 1)) x102000 x102001 x102002 x102003 x102004 x102005 x102006 x102007 x102008 x102009 x102010)
def bournelaw26_RainEncloses.l2 : Nat → List Int → Bool → List (S26) → Int → ByteArray → List ByteArray → Int → List (S47) → List (S104) → List (S106) → List (S67) → List (S108) → List (S110) → List Int → Int → Option (Bool)
 | 0, _, _, _, _, _, _, _, _, _, _, _, _, _, _, _ => none
 | k + 1, x1, x11, x18, x19, x102000, x102001, x102002, x102003, x102004, x102005, x102006, x102007, x102008, x102009, x102010 => if x19 < (x18.length : Int) then (if 0 ≤ x19 then (if x19 < (x1.length : Int) then ((span_Has.f ((rd_T26 x18 x19).f0) ((rd_T26 x18 x19).f1) (rd x1 x19)).bind fun t126 => (if t126 = true then (bournelaw26_RainEncloses.l2 k x1 x11 x18 (wrap64 (x19 + 1)) x102000 x102001 x102002 x102003 x102004 x102005 x102006 x102007 x102008 x102009 x102010) else (some false))) else (none)) else (none)) else ((rain_Mesh.f x102000 x102001 x102002 x102003 x102004 x102005 x102006 x102007 x102008 x102009 x102010 x18).bind fun t127 => (bournelaw26_RainEncloses.l3 k x1 x11 t127 0 0 x102000 x102001 x102002 x102003 x102004 x102005 x102006 x102007 x102008 x102009 x102010))
def bournelaw26_RainEncloses.l3 : Nat → List Int → Bool → List (S26) → Int → Int → ByteArray → List ByteArray → Int → List (S47) → List (S104) → List (S106) → List (S67) → List (S108) → List (S110) → List Int → Int → Option (Bool)
 | 0, _, _, _, _, _, _, _, _, _, _, _, _, _, _, _, _ => none
 | k + 1, x1, x11, x20, x21, x22, x102000, x102001, x102002, x102003, x102004, x102005, x102006, x102007, x102008, x102009, x102010 => if x22 < (x102003.length : Int) then (if 0 ≤ x22 then (if 0 ≤ (mx 0 x102002) then (if (mx 0 x102002) ≤ (x1.length : Int) then ((bournelaw26_falls.f ((rd_T47 x102003 x22).f0) ((rd_T47 x102003 x22).f1) ((rd_T47 x102003 x22).f2) ((rd_T47 x102003 x22).f3) ((rd_T47 x102003 x22).f4) ((rd_T47 x102003 x22).f5) ((rd_T47 x102003 x22).f6) ((rd_T47 x102003 x22).f7) ((rd_T47 x102003 x22).f8) ((rd_T47 x102003 x22).f9) ((rd_T47 x102003 x22).f10) ((rd_T47 x102003 x22).f11) (x1.take ((mx 0 x102002) : Int).toNat)).bind fun t132 => (if x22 ≥ (x20.length : Int) then (some false) else (if x22 < (x20.length : Int) then ((span_Has.f ((rd_T26 x20 x22).f0) ((rd_T26 x20 x22).f1) t132).bind fun t134 => (if t134 = true then ((exact_Add.f x21 t132).bind fun t135 => (bournelaw26_RainEncloses.l3 k x1 x11 x20 t135 (wrap64 (x22 + 1)) x102000 x102001 x102002 x102003 x102004 x102005 x102006 x102007 x102008 x102009 x102010)) else (some false))) else (none)))) else (none)) else (none)) else (none)) else (if x11 = true then (if (x20.length : Int) = (x102003.length : Int) then ((rain_Sum.f x20).bind fun bt136 => ((span_Has.f bt136.1 bt136.2 x21).bind fun t138 => (some t138))) else (some false)) else (some false))
end
def bournelaw26_RainEncloses.f (k : Nat) (a0_0 : ByteArray) (l0_1 : List ByteArray) (a0_2 : Int) (l0_3 : List (S47)) (l0_4 : List (S104)) (l0_5 : List (S106)) (l0_6 : List (S67)) (l0_7 : List (S108)) (l0_8 : List (S110)) (l0_9 : List Int) (a0_10 : Int) (l1 : List Int) (l2 : List Int) (a3 : Int) (l4 : List (S63)) : Option (Bool) := (bournelaw26_small.f).bind fun t102 => ((bournelaw26_few.f a0_0 l0_1 a0_2 l0_3 l0_4 l0_5 l0_6 l0_7 l0_8 l0_9 a0_10 l4 ([] : List (S26))).bind fun t103 => (if t103 = true then (if (l1.length : Int) > 64 then (bournelaw26_RainEncloses.j0 k l1 l2 a3 l4 t102 true a0_0 l0_1 a0_2 l0_3 l0_4 l0_5 l0_6 l0_7 l0_8 l0_9 a0_10) else (if a0_2 > (l1.length : Int) then (bournelaw26_RainEncloses.j0 k l1 l2 a3 l4 t102 true a0_0 l0_1 a0_2 l0_3 l0_4 l0_5 l0_6 l0_7 l0_8 l0_9 a0_10) else (if a3 < 0 then (bournelaw26_RainEncloses.j0 k l1 l2 a3 l4 t102 true a0_0 l0_1 a0_2 l0_3 l0_4 l0_5 l0_6 l0_7 l0_8 l0_9 a0_10) else (bournelaw26_RainEncloses.j0 k l1 l2 a3 l4 t102 (decide (a3 ≥ 1000)) a0_0 l0_1 a0_2 l0_3 l0_4 l0_5 l0_6 l0_7 l0_8 l0_9 a0_10)))) else (bournelaw26_RainEncloses.j0 k l1 l2 a3 l4 t102 true a0_0 l0_1 a0_2 l0_3 l0_4 l0_5 l0_6 l0_7 l0_8 l0_9 a0_10)))
def bournelaw26_RainEncloses.T14 : Bool × List (List Nat × List Nat) := (true, [([], []), ([], []), ([], []), ([1, 2], [1, 2]), ([3], [3]), ([0, 4], [0, 4]), ([], []), ([], []), ([6, 7], [6, 7]), ([8], [8]), ([], []), ([9, 10], [9, 10]), ([5, 11], [5, 11]), ([12], [12]), ([], []), ([], []), ([14, 15], [14, 15]), ([13, 16], [13, 16])])
def bournelaw26_RainEncloses.B14 : List Nat := [0, 0, 0, 6, 14, 31, 0, 0, 192, 448, 0, 1984, 4095, 8191, 0, 0, 49152, 131071]
theorem bournelaw26_RainEncloses.tab14 : rtab .any (opsOf Try.f7 14) = bournelaw26_RainEncloses.T14 := by kernel_rfl
theorem bournelaw26_RainEncloses.bits14 : waitsOk bournelaw26_RainEncloses.T14.2 bournelaw26_RainEncloses.B14 = true := by kernel_rfl
def bournelaw26_RainEncloses.T20 : Bool × List (List Nat × List Nat) := (true, [([], []), ([], []), ([], []), ([1, 2], [1, 2]), ([3], [3]), ([], []), ([0, 4, 5], [0, 4, 5]), ([6, 6, 0, 1, 2, 3, 4, 5, 6], [6])])
def bournelaw26_RainEncloses.B20 : List Nat := [0, 0, 0, 6, 14, 0, 63, 127]
theorem bournelaw26_RainEncloses.tab20 : rtab .any (opsOf Try.f7 20) = bournelaw26_RainEncloses.T20 := by kernel_rfl
theorem bournelaw26_RainEncloses.bits20 : waitsOk bournelaw26_RainEncloses.T20.2 bournelaw26_RainEncloses.B20 = true := by kernel_rfl
def bournelaw26_RainEncloses.T21 : Bool × List (List Nat × List Nat) := (true, [([], []), ([0], [0]), ([1], [1]), ([1], [1]), ([2, 3, 1], [1, 2, 3]), ([4, 1], [1, 4]), ([5, 1], [1, 5]), ([1], [1]), ([1], [1]), ([7, 8, 1], [1, 7, 8]), ([9, 1], [1, 9]), ([6, 10, 1, 1], [1, 6, 10]), ([11, 1], [1, 11]), ([1, 12], [1, 12])])
def bournelaw26_RainEncloses.B21 : List Nat := [0, 1, 3, 3, 15, 31, 63, 3, 3, 387, 899, 2047, 4095, 8191]
theorem bournelaw26_RainEncloses.tab21 : rtab .any (opsOf Try.f7 21) = bournelaw26_RainEncloses.T21 := by kernel_rfl
theorem bournelaw26_RainEncloses.bits21 : waitsOk bournelaw26_RainEncloses.T21.2 bournelaw26_RainEncloses.B21 = true := by kernel_rfl
def bournelaw26_RainEncloses.T27 : Bool × List (List Nat × List Nat) := (true, [([], []), ([], []), ([0, 1], [0, 1]), ([2], [2]), ([], []), ([], []), ([4, 5], [4, 5]), ([6], [6]), ([3, 7], [3, 7]), ([8], [8])])
def bournelaw26_RainEncloses.B27 : List Nat := [0, 0, 3, 7, 0, 0, 48, 112, 255, 511]
theorem bournelaw26_RainEncloses.tab27 : rtab .any (opsOf Try.f7 27) = bournelaw26_RainEncloses.T27 := by kernel_rfl
theorem bournelaw26_RainEncloses.bits27 : waitsOk bournelaw26_RainEncloses.T27.2 bournelaw26_RainEncloses.B27 = true := by kernel_rfl
def bournelaw26_RainEncloses.T34 : Bool × List (List Nat × List Nat) := (true, [([], []), ([0], [0]), ([], []), ([1, 2], [1, 2]), ([3], [3]), ([], []), ([], []), ([6], [6]), ([7], [7]), ([5, 8], [5, 8]), ([4, 9], [4, 9]), ([10, 10, 0, 1, 2, 3, 4, 5, 6, 7, 8, 9, 10], [10])])
def bournelaw26_RainEncloses.B34 : List Nat := [0, 1, 0, 7, 15, 0, 0, 64, 192, 480, 1023, 2047]
theorem bournelaw26_RainEncloses.tab34 : rtab .any (opsOf Try.f7 34) = bournelaw26_RainEncloses.T34 := by kernel_rfl
theorem bournelaw26_RainEncloses.bits34 : waitsOk bournelaw26_RainEncloses.T34.2 bournelaw26_RainEncloses.B34 = true := by kernel_rfl
set_option maxHeartbeats 8000000 in
set_option maxRecDepth 100000 in
theorem bournelaw26_RainEncloses.calls (k : Nat) (a0_0 : ByteArray) (A0_1 : Option Addr) (c0_1 : Nat) (l0_1 : List ByteArray) (a0_2 : Int) (A0_3 : Option Addr) (c0_3 : Nat) (l0_3 : List (S47)) (A0_4 : Option Addr) (c0_4 : Nat) (l0_4 : List (S104)) (A0_5 : Option Addr) (c0_5 : Nat) (l0_5 : List (S106)) (A0_6 : Option Addr) (c0_6 : Nat) (l0_6 : List (S67)) (A0_7 : Option Addr) (c0_7 : Nat) (l0_7 : List (S108)) (A0_8 : Option Addr) (c0_8 : Nat) (l0_8 : List (S110)) (A0_9 : Option Addr) (c0_9 : Nat) (l0_9 : List Int) (a0_10 : Int) (A1 : Option Addr) (c1 : Nat) (l1 : List Int) (A2 : Option Addr) (c2 : Nat) (l2 : List Int) (a3 : Int) (A4 : Option Addr) (c4 : Nat) (l4 : List (S63)) (r : Bool) (w : World) (hr0_1 : Kd.C Kd.string w A0_1 l0_1.length l0_1) (hc0_1 : l0_1.length ≤ c0_1) (hr0_3 : Kd.C k47 w A0_3 l0_3.length l0_3) (hc0_3 : l0_3.length ≤ c0_3) (hr0_4 : Kd.C k104 w A0_4 l0_4.length l0_4) (hc0_4 : l0_4.length ≤ c0_4) (hr0_5 : Kd.C k106 w A0_5 l0_5.length l0_5) (hc0_5 : l0_5.length ≤ c0_5) (hr0_6 : Kd.C k67 w A0_6 l0_6.length l0_6) (hc0_6 : l0_6.length ≤ c0_6) (hr0_7 : Kd.C k108 w A0_7 l0_7.length l0_7) (hc0_7 : l0_7.length ≤ c0_7) (hr0_8 : Kd.C k110 w A0_8 l0_8.length l0_8) (hc0_8 : l0_8.length ≤ c0_8) (hr0_9 : Kd.C (Kd.int .i64) w A0_9 l0_9.length l0_9) (hc0_9 : l0_9.length ≤ c0_9) (hr1 : Kd.C (Kd.int .i64) w A1 l1.length l1) (hc1 : l1.length ≤ c1) (hr2 : Kd.C (Kd.int .i64) w A2 l2.length l2) (hc2 : l2.length ≤ c2) (hr4 : Kd.C k63 w A4 l4.length l4) (hc4 : l4.length ≤ c4) (h : bournelaw26_RainEncloses.f k a0_0 l0_1 a0_2 l0_3 l0_4 l0_5 l0_6 l0_7 l0_8 l0_9 a0_10 l1 l2 a3 l4 = some r) (hr : Aside0 (r = true)) :
  Calls Try.prog 7 #[.agg #[.string a0_0, .slice A0_1 l0_1.length c0_1, .int .i64 a0_2, .slice A0_3 l0_3.length c0_3, .slice A0_4 l0_4.length c0_4, .slice A0_5 l0_5.length c0_5, .slice A0_6 l0_6.length c0_6, .slice A0_7 l0_7.length c0_7, .slice A0_8 l0_8.length c0_8, .slice A0_9 l0_9.length c0_9, .int .i64 a0_10], .slice A1 l1.length c1, .slice A2 l2.length c2, .int .i64 a3, .slice A4 l4.length c4] w fun e w' => e = .returned (.bool r) ∧ Below w.heap.size w w' := by
 have hu63 := Try.underlying63; have hu26 := Try.underlying26; have hu47 := Try.underlying47; have HR0_1 := Aside0.mk hr0_1
 have HC0_1 := Aside0.mk hc0_1
 clear hr0_1 hc0_1; have HR0_3 := Aside0.mk hr0_3
 have HC0_3 := Aside0.mk hc0_3
 clear hr0_3 hc0_3; have HR0_4 := Aside0.mk hr0_4
 have HC0_4 := Aside0.mk hc0_4
 clear hr0_4 hc0_4; have HR0_5 := Aside0.mk hr0_5
 have HC0_5 := Aside0.mk hc0_5
 clear hr0_5 hc0_5; have HR0_6 := Aside0.mk hr0_6
 have HC0_6 := Aside0.mk hc0_6
 clear hr0_6 hc0_6; have HR0_7 := Aside0.mk hr0_7
 have HC0_7 := Aside0.mk hc0_7
 clear hr0_7 hc0_7; have HR0_8 := Aside0.mk hr0_8
 have HC0_8 := Aside0.mk hc0_8
 clear hr0_8 hc0_8; have HR0_9 := Aside0.mk hr0_9
 have HC0_9 := Aside0.mk hc0_9
 clear hr0_9 hc0_9; have HR1 := Aside0.mk hr1
 have HC1 := Aside0.mk hc1
 clear hr1 hc1; have HR2 := Aside0.mk hr2
 have HC2 := Aside0.mk hc2
 clear hr2 hc2; have HR4 := Aside0.mk hr4
 have HC4 := Aside0.mk hc4
 clear hr4 hc4; have HB := Aside0.mk (Below.refl w.heap.size w)
 have H : ((bournelaw26_small.f).bind fun t102 => ((bournelaw26_few.f a0_0 l0_1 a0_2 l0_3 l0_4 l0_5 l0_6 l0_7 l0_8 l0_9 a0_10 l4 ([] : List (S26))).bind fun t103 => (if t103 = true then (if (l1.length : Int) > 64 then (bournelaw26_RainEncloses.j0 k l1 l2 a3 l4 t102 true a0_0 l0_1 a0_2 l0_3 l0_4 l0_5 l0_6 l0_7 l0_8 l0_9 a0_10) else (if a0_2 > (l1.length : Int) then (bournelaw26_RainEncloses.j0 k l1 l2 a3 l4 t102 true a0_0 l0_1 a0_2 l0_3 l0_4 l0_5 l0_6 l0_7 l0_8 l0_9 a0_10) else (if a3 < 0 then (bournelaw26_RainEncloses.j0 k l1 l2 a3 l4 t102 true a0_0 l0_1 a0_2 l0_3 l0_4 l0_5 l0_6 l0_7 l0_8 l0_9 a0_10) else (bournelaw26_RainEncloses.j0 k l1 l2 a3 l4 t102 (decide (a3 ≥ 1000)) a0_0 l0_1 a0_2 l0_3 l0_4 l0_5 l0_6 l0_7 l0_8 l0_9 a0_10)))) else (bournelaw26_RainEncloses.j0 k l1 l2 a3 l4 t102 true a0_0 l0_1 a0_2 l0_3 l0_4 l0_5 l0_6 l0_7 l0_8 l0_9 a0_10)))) = some r := h
 clear h; replace H := Option.bind_eq_some_iff.mp H; obtain ⟨t102, A60, H⟩ := H; replace H : ((bournelaw26_few.f a0_0 l0_1 a0_2 l0_3 l0_4 l0_5 l0_6 l0_7 l0_8 l0_9 a0_10 l4 ([] : List (S26))).bind fun t103 => (if t103 = true then (if (l1.length : Int) > 64 then (bournelaw26_RainEncloses.j0 k l1 l2 a3 l4 t102 true a0_0 l0_1 a0_2 l0_3 l0_4 l0_5 l0_6 l0_7 l0_8 l0_9 a0_10) else (if a0_2 > (l1.length : Int) then (bournelaw26_RainEncloses.j0 k l1 l2 a3 l4 t102 true a0_0 l0_1 a0_2 l0_3 l0_4 l0_5 l0_6 l0_7 l0_8 l0_9 a0_10) else (if a3 < 0 then (bournelaw26_RainEncloses.j0 k l1 l2 a3 l4 t102 true a0_0 l0_1 a0_2 l0_3 l0_4 l0_5 l0_6 l0_7 l0_8 l0_9 a0_10) else (bournelaw26_RainEncloses.j0 k l1 l2 a3 l4 t102 (decide (a3 ≥ 1000)) a0_0 l0_1 a0_2 l0_3 l0_4 l0_5 l0_6 l0_7 l0_8 l0_9 a0_10)))) else (bournelaw26_RainEncloses.j0 k l1 l2 a3 l4 t102 true a0_0 l0_1 a0_2 l0_3 l0_4 l0_5 l0_6 l0_7 l0_8 l0_9 a0_10))) = some r := H
 have A6 := Aside0.mk A60
 clear A60; replace H := Option.bind_eq_some_iff.mp H; obtain ⟨t103, A70, H⟩ := H; replace H : (if t103 = true then (if (l1.length : Int) > 64 then (bournelaw26_RainEncloses.j0 k l1 l2 a3 l4 t102 true a0_0 l0_1 a0_2 l0_3 l0_4 l0_5 l0_6 l0_7 l0_8 l0_9 a0_10) else (if a0_2 > (l1.length : Int) then (bournelaw26_RainEncloses.j0 k l1 l2 a3 l4 t102 true a0_0 l0_1 a0_2 l0_3 l0_4 l0_5 l0_6 l0_7 l0_8 l0_9 a0_10) else (if a3 < 0 then (bournelaw26_RainEncloses.j0 k l1 l2 a3 l4 t102 true a0_0 l0_1 a0_2 l0_3 l0_4 l0_5 l0_6 l0_7 l0_8 l0_9 a0_10) else (bournelaw26_RainEncloses.j0 k l1 l2 a3 l4 t102 (decide (a3 ≥ 1000)) a0_0 l0_1 a0_2 l0_3 l0_4 l0_5 l0_6 l0_7 l0_8 l0_9 a0_10)))) else (bournelaw26_RainEncloses.j0 k l1 l2 a3 l4 t102 true a0_0 l0_1 a0_2 l0_3 l0_4 l0_5 l0_6 l0_7 l0_8 l0_9 a0_10)) = some r := H
 have A7 := Aside0.mk A70
 clear A70; have HC8 := Aside0.mk H
 clear H; go_enter Try.func7, Try.ntmps7
 go_upto_region 3 with (first | ((with_reducible refine gate_dst (N := 25) rfl ?_); (try (refine gate_guard (by rfl) ?_; dsimp only)); first | (refine load_blk (N := 25) rfl rfl 41 (.tmp 5) rfl rfl (afk BK101) (by exact fun h => ld41 h rfl) ?_)) | ((with_reducible refine gate_dst (N := 117) rfl ?_); (try (refine gate_guard (by rfl) ?_; dsimp only)); first | (refine load_blk (N := 117) rfl rfl 41 (.tmp 5) rfl rfl (afk BK101) (by exact fun h => ld41 h rfl) ?_)) | ((with_reducible refine gate_dst (N := 139) rfl ?_); (try (refine gate_guard (by rfl) ?_; dsimp only)); first | (refine load_blk (N := 139) rfl rfl 41 (.tmp 5) rfl rfl (afk BK101) (by exact fun h => ld41 h rfl) ?_)) | ((with_reducible refine gate_dst (N := 160) rfl ?_); (try (refine gate_guard (by rfl) ?_; dsimp only)); first | (refine load_blk (N := 160) rfl rfl 41 (.tmp 5) rfl rfl (afk BK101) (by exact fun h => ld41 h rfl) ?_)) | ((with_reducible refine gate_dst (N := 5) rfl ?_); (try (refine gate_guard (by rfl) ?_; dsimp only)); refine box_event ?hg (N := 5) ?hd (cs := #[.string a0_0, .slice A0_1 l0_1.length c0_1, .int .i64 a0_2, .slice A0_3 l0_3.length c0_3, .slice A0_4 l0_4.length c0_4, .slice A0_5 l0_5.length c0_5, .slice A0_6 l0_6.length c0_6, .slice A0_7 l0_7.length c0_7, .slice A0_8 l0_8.length c0_8, .slice A0_9 l0_9.length c0_9, .int .i64 a0_10]) (t := 41) ?hr ?_; (case hd => rfl); (case hg => rfl); (case hr => first | (go_simp; done) | (go_simp; rfl)); intro gb101 hg w9 hbox hb; have n0_ := Aside0.mk (below_step ahx hb); have n1_ := Aside0.mk (hbox); have n2_ := Aside0.mk ((by rw [hg]; exact (below_size ahx) : w.heap.size ≤ gb101)); have n3_ := Aside0.mk ((by rw [hg]; exact (below_size ahx) : w.heap.size ≤ gb101)); clear HB; have HB := n0_; have BK101 := n1_; have GW101 := n2_; have GE101 := n3_; clear n0_ n1_ n2_ n3_; clear hb hbox hg) | ((first | ((with_reducible refine gate_callee (f := 8) rfl ?_); refine goesL_ (some 24) rfl rfl Try.func8 (by kernel_rfl) rfl #[] rfl (by first | done | rfl) ?_) | go_at_call 8); (with_reducible refine (bournelaw26_small.calls  t102 _ A6.out).mono ?_); rintro e w10 ⟨rfl, hb⟩; (first | with_reducible refine ⟨_, rfl, ?_⟩ | skip); have n0_ := Aside0.mk (blk_below (g := gb101) (o := .cells #[.string a0_0, .slice A0_1 l0_1.length c0_1, .int .i64 a0_2, .slice A0_3 l0_3.length c0_3, .slice A0_4 l0_4.length c0_4, .slice A0_5 l0_5.length c0_5, .slice A0_6 l0_6.length c0_6, .slice A0_7 l0_7.length c0_7, .slice A0_8 l0_8.length c0_8, .slice A0_9 l0_9.length c0_9, .int .i64 a0_10] 41 (0, 0)) abx hb); have n1_ := Aside0.mk (below_step ahx hb); clear BK101; clear HB; have BK101 := n0_; have HB := n1_; clear n0_ n1_; (try clear hb); (try clear hb2); (try clear hk); (try clear hi); have hcz11_0 : w10.cell? ⟨gb101, 0, none⟩ = some (.string a0_0) := (blk_cell BK101.out 0).trans rfl; have hcz11_1 : w10.cell? ⟨gb101, 1, none⟩ = some (.slice A0_1 l0_1.length c0_1) := (blk_cell BK101.out 1).trans rfl; have hcz11_2 : w10.cell? ⟨gb101, 2, none⟩ = some (.int .i64 a0_2) := (blk_cell BK101.out 2).trans rfl; have hcz11_3 : w10.cell? ⟨gb101, 3, none⟩ = some (.slice A0_3 l0_3.length c0_3) := (blk_cell BK101.out 3).trans rfl; have hcz11_4 : w10.cell? ⟨gb101, 4, none⟩ = some (.slice A0_4 l0_4.length c0_4) := (blk_cell BK101.out 4).trans rfl; have hcz11_5 : w10.cell? ⟨gb101, 5, none⟩ = some (.slice A0_5 l0_5.length c0_5) := (blk_cell BK101.out 5).trans rfl; have hcz11_6 : w10.cell? ⟨gb101, 6, none⟩ = some (.slice A0_6 l0_6.length c0_6) := (blk_cell BK101.out 6).trans rfl; have hcz11_7 : w10.cell? ⟨gb101, 7, none⟩ = some (.slice A0_7 l0_7.length c0_7) := (blk_cell BK101.out 7).trans rfl; have hcz11_8 : w10.cell? ⟨gb101, 8, none⟩ = some (.slice A0_8 l0_8.length c0_8) := (blk_cell BK101.out 8).trans rfl; have hcz11_9 : w10.cell? ⟨gb101, 9, none⟩ = some (.slice A0_9 l0_9.length c0_9) := (blk_cell BK101.out 9).trans rfl; have hcz11_10 : w10.cell? ⟨gb101, 10, none⟩ = some (.int .i64 a0_10) := (blk_cell BK101.out 10).trans rfl; have hfz11_0 := blk_frozen BK101.out 0; have hfz11_1 := blk_frozen BK101.out 1; have hfz11_2 := blk_frozen BK101.out 2; have hfz11_3 := blk_frozen BK101.out 3; have hfz11_4 := blk_frozen BK101.out 4; have hfz11_5 := blk_frozen BK101.out 5; have hfz11_6 := blk_frozen BK101.out 6; have hfz11_7 := blk_frozen BK101.out 7; have hfz11_8 := blk_frozen BK101.out 8; have hfz11_9 := blk_frozen BK101.out 9; have hfz11_10 := blk_frozen BK101.out 10) | ((first | ((with_reducible refine gate_callee (f := 13) rfl ?_); refine goesL_ (some 27) rfl rfl Try.func13 (by kernel_rfl) rfl #[.agg #[.string a0_0, .slice A0_1 l0_1.length c0_1, .int .i64 a0_2, .slice A0_3 l0_3.length c0_3, .slice A0_4 l0_4.length c0_4, .slice A0_5 l0_5.length c0_5, .slice A0_6 l0_6.length c0_6, .slice A0_7 l0_7.length c0_7, .slice A0_8 l0_8.length c0_8, .slice A0_9 l0_9.length c0_9, .int .i64 a0_10], .slice A4 l4.length c4, .slice none 0 0] rfl (by first | done | rfl) ?_) | go_at_call 13); (with_reducible refine (bournelaw26_few.calls_n_9 a0_0 _ _ l0_1 a0_2 _ _ l0_3 _ _ l0_4 _ _ l0_5 _ _ l0_6 _ _ l0_7 _ _ l0_8 _ _ l0_9 a0_10 _ _ l4 t103 _ ?side1 ?side2 ?side3 ?side4 ?side5 ?side6 ?side7 ?side8 ?side9 ?side10 ?side11 ?side12 ?side13 ?side14 ?side15 ?side16 ?side17 ?side18 A7.out).mono ?_); (case side1 => repeat (first | exact (Kd.C_below HR0_1.out HB.out) | with_reducible first | refine Kd.C_alloc ?_ _ | refine Kd.C_drewN ?_ _ | refine Kd.C_drew ?_)); (case side2 => exact HC0_1.out); (case side3 => repeat (first | exact (Kd.C_below HR0_3.out HB.out) | with_reducible first | refine Kd.C_alloc ?_ _ | refine Kd.C_drewN ?_ _ | refine Kd.C_drew ?_)); (case side4 => exact HC0_3.out); (case side5 => repeat (first | exact (Kd.C_below HR0_4.out HB.out) | with_reducible first | refine Kd.C_alloc ?_ _ | refine Kd.C_drewN ?_ _ | refine Kd.C_drew ?_)); (case side6 => exact HC0_4.out); (case side7 => repeat (first | exact (Kd.C_below HR0_5.out HB.out) | with_reducible first | refine Kd.C_alloc ?_ _ | refine Kd.C_drewN ?_ _ | refine Kd.C_drew ?_)); (case side8 => exact HC0_5.out); (case side9 => repeat (first | exact (Kd.C_below HR0_6.out HB.out) | with_reducible first | refine Kd.C_alloc ?_ _ | refine Kd.C_drewN ?_ _ | refine Kd.C_drew ?_)); (case side10 => exact HC0_6.out); (case side11 => repeat (first | exact (Kd.C_below HR0_7.out HB.out) | with_reducible first | refine Kd.C_alloc ?_ _ | refine Kd.C_drewN ?_ _ | refine Kd.C_drew ?_)); (case side12 => exact HC0_7.out); (case side13 => repeat (first | exact (Kd.C_below HR0_8.out HB.out) | with_reducible first | refine Kd.C_alloc ?_ _ | refine Kd.C_drewN ?_ _ | refine Kd.C_drew ?_)); (case side14 => exact HC0_8.out); (case side15 => repeat (first | exact (Kd.C_below HR0_9.out HB.out) | with_reducible first | refine Kd.C_alloc ?_ _ | refine Kd.C_drewN ?_ _ | refine Kd.C_drew ?_)); (case side16 => exact HC0_9.out); (case side17 => repeat (first | exact (Kd.C_below HR4.out HB.out) | with_reducible first | refine Kd.C_alloc ?_ _ | refine Kd.C_drewN ?_ _ | refine Kd.C_drew ?_)); (case side18 => exact HC4.out); rintro e w12 ⟨rfl, hb⟩; (first | with_reducible refine ⟨_, rfl, ?_⟩ | skip); have n0_ := Aside0.mk (blk_below (g := gb101) (o := .cells #[.string a0_0, .slice A0_1 l0_1.length c0_1, .int .i64 a0_2, .slice A0_3 l0_3.length c0_3, .slice A0_4 l0_4.length c0_4, .slice A0_5 l0_5.length c0_5, .slice A0_6 l0_6.length c0_6, .slice A0_7 l0_7.length c0_7, .slice A0_8 l0_8.length c0_8, .slice A0_9 l0_9.length c0_9, .int .i64 a0_10] 41 (0, 0)) abx hb); have n1_ := Aside0.mk (below_step ahx hb); clear BK101; clear HB; have BK101 := n0_; have HB := n1_; clear n0_ n1_; (try clear hb); (try clear hb2); (try clear hk); (try clear hi)))
 (try simp only [Act.put, zA, zB, zC]); go_cut [49] (fun v49 wc => ∃ (kq : Nat) (x49_7 : Bool), v49 = .bool x49_7 ∧ Aside0 (bournelaw26_RainEncloses.j0 kq l1 l2 a3 l4 t102 x49_7 a0_0 l0_1 a0_2 l0_3 l0_4 l0_5 l0_6 l0_7 l0_8 l0_9 a0_10 = some r) ∧ Aside0 (kq ≤ k) ∧ Aside0 (wc.heap[gb101]? = some (.cells #[.string a0_0, (.slice A0_1 l0_1.length c0_1), .int .i64 a0_2, (.slice A0_3 l0_3.length c0_3), (.slice A0_4 l0_4.length c0_4), (.slice A0_5 l0_5.length c0_5), (.slice A0_6 l0_6.length c0_6), (.slice A0_7 l0_7.length c0_7), (.slice A0_8 l0_8.length c0_8), (.slice A0_9 l0_9.length c0_9), .int .i64 a0_10] 41 (0, 0))) ∧ Aside0 (Below w.heap.size w wc))
 case first =>
  have H := HC8.out; clear HC8
  by_cases c13 : t103 = true
  ·subst c13; have H1 : (if (l1.length : Int) > 64 then (bournelaw26_RainEncloses.j0 k l1 l2 a3 l4 t102 true a0_0 l0_1 a0_2 l0_3 l0_4 l0_5 l0_6 l0_7 l0_8 l0_9 a0_10) else (if a0_2 > (l1.length : Int) then (bournelaw26_RainEncloses.j0 k l1 l2 a3 l4 t102 true a0_0 l0_1 a0_2 l0_3 l0_4 l0_5 l0_6 l0_7 l0_8 l0_9 a0_10) else (if a3 < 0 then (bournelaw26_RainEncloses.j0 k l1 l2 a3 l4 t102 true a0_0 l0_1 a0_2 l0_3 l0_4 l0_5 l0_6 l0_7 l0_8 l0_9 a0_10) else (bournelaw26_RainEncloses.j0 k l1 l2 a3 l4 t102 (decide (a3 ≥ 1000)) a0_0 l0_1 a0_2 l0_3 l0_4 l0_5 l0_6 l0_7 l0_8 l0_9 a0_10)))) = some r := by rw [if_pos rfl] at H; exact H
   clear H; have H := H1; clear H1
   by_cases c14 : (l1.length : Int) > 64
   ·rw [if_pos c14] at H
    have c14b0 : decide (64 < (l1.length : Int)) = true := decide_eq_true c14
    have c14b1 : decide (64 < l1.length) = true := decide_eq_true (by omega)
    clear c14; (first | rw [c14b0] | (simp only [i64_w, i32_w]; rw [c14b0]) | skip); have H' := Aside0.mk H; clear H; go_wp2
    go_meet
    case rel => exact ⟨_, (true), (by first | rfl | (simp; done) | (simp [*]; done)), H', ⟨by first | omega | exact Nat.le_refl _⟩, ⟨by (with_reducible repeat (first | refine blk_drewN ?_ _ | refine blk_drew ?_ | refine blk_alloc ?_ _)); exact BK101.out⟩, ⟨ahx⟩⟩
   rw [if_neg c14] at H
   have c14b0 : decide (64 < (l1.length : Int)) = false := decide_eq_false c14
   have c14b1 : decide (64 < l1.length) = false := decide_eq_false (by omega)
   clear c14; (first | rw [c14b0] | (simp only [i64_w, i32_w]; rw [c14b0]) | skip)
   by_cases c15 : a0_2 > (l1.length : Int)
   ·rw [if_pos c15] at H
    have c15b0 : decide ((l1.length : Int) < a0_2) = true := decide_eq_true c15
    clear c15; have H' := Aside0.mk H; clear H; have hcz16_0 : w12.cell? ⟨gb101, 0, none⟩ = some (.string a0_0) := (blk_cell BK101.out 0).trans rfl
    have hcz16_1 : w12.cell? ⟨gb101, 1, none⟩ = some (.slice A0_1 l0_1.length c0_1) := (blk_cell BK101.out 1).trans rfl
    have hcz16_2 : w12.cell? ⟨gb101, 2, none⟩ = some (.int .i64 a0_2) := (blk_cell BK101.out 2).trans rfl
    have hcz16_3 : w12.cell? ⟨gb101, 3, none⟩ = some (.slice A0_3 l0_3.length c0_3) := (blk_cell BK101.out 3).trans rfl
    have hcz16_4 : w12.cell? ⟨gb101, 4, none⟩ = some (.slice A0_4 l0_4.length c0_4) := (blk_cell BK101.out 4).trans rfl
    have hcz16_5 : w12.cell? ⟨gb101, 5, none⟩ = some (.slice A0_5 l0_5.length c0_5) := (blk_cell BK101.out 5).trans rfl
    have hcz16_6 : w12.cell? ⟨gb101, 6, none⟩ = some (.slice A0_6 l0_6.length c0_6) := (blk_cell BK101.out 6).trans rfl
    have hcz16_7 : w12.cell? ⟨gb101, 7, none⟩ = some (.slice A0_7 l0_7.length c0_7) := (blk_cell BK101.out 7).trans rfl
    have hcz16_8 : w12.cell? ⟨gb101, 8, none⟩ = some (.slice A0_8 l0_8.length c0_8) := (blk_cell BK101.out 8).trans rfl
    have hcz16_9 : w12.cell? ⟨gb101, 9, none⟩ = some (.slice A0_9 l0_9.length c0_9) := (blk_cell BK101.out 9).trans rfl
    have hcz16_10 : w12.cell? ⟨gb101, 10, none⟩ = some (.int .i64 a0_10) := (blk_cell BK101.out 10).trans rfl
    have hfz16_0 := blk_frozen BK101.out 0
    have hfz16_1 := blk_frozen BK101.out 1
    have hfz16_2 := blk_frozen BK101.out 2
    have hfz16_3 := blk_frozen BK101.out 3
    have hfz16_4 := blk_frozen BK101.out 4
    have hfz16_5 := blk_frozen BK101.out 5
    have hfz16_6 := blk_frozen BK101.out 6
    have hfz16_7 := blk_frozen BK101.out 7
    have hfz16_8 := blk_frozen BK101.out 8
    have hfz16_9 := blk_frozen BK101.out 9
    have hfz16_10 := blk_frozen BK101.out 10
    go_wp2
    go_meet
    case rel => exact ⟨_, (true), (by first | rfl | (simp; done) | (simp [*]; done)), H', ⟨by first | omega | exact Nat.le_refl _⟩, ⟨by (with_reducible repeat (first | refine blk_drewN ?_ _ | refine blk_drew ?_ | refine blk_alloc ?_ _)); exact BK101.out⟩, ⟨ahx⟩⟩
   rw [if_neg c15] at H
   have c15b0 : decide ((l1.length : Int) < a0_2) = false := decide_eq_false c15
   clear c15
   by_cases c17 : a3 < 0
   ·rw [if_pos c17] at H
    have c17b0 : decide (a3 < 0) = true := decide_eq_true c17
    clear c17; have H' := Aside0.mk H; clear H; have hcz18_0 : w12.cell? ⟨gb101, 0, none⟩ = some (.string a0_0) := (blk_cell BK101.out 0).trans rfl
    have hcz18_1 : w12.cell? ⟨gb101, 1, none⟩ = some (.slice A0_1 l0_1.length c0_1) := (blk_cell BK101.out 1).trans rfl
    have hcz18_2 : w12.cell? ⟨gb101, 2, none⟩ = some (.int .i64 a0_2) := (blk_cell BK101.out 2).trans rfl
    have hcz18_3 : w12.cell? ⟨gb101, 3, none⟩ = some (.slice A0_3 l0_3.length c0_3) := (blk_cell BK101.out 3).trans rfl
    have hcz18_4 : w12.cell? ⟨gb101, 4, none⟩ = some (.slice A0_4 l0_4.length c0_4) := (blk_cell BK101.out 4).trans rfl
    have hcz18_5 : w12.cell? ⟨gb101, 5, none⟩ = some (.slice A0_5 l0_5.length c0_5) := (blk_cell BK101.out 5).trans rfl
    have hcz18_6 : w12.cell? ⟨gb101, 6, none⟩ = some (.slice A0_6 l0_6.length c0_6) := (blk_cell BK101.out 6).trans rfl
    have hcz18_7 : w12.cell? ⟨gb101, 7, none⟩ = some (.slice A0_7 l0_7.length c0_7) := (blk_cell BK101.out 7).trans rfl
    have hcz18_8 : w12.cell? ⟨gb101, 8, none⟩ = some (.slice A0_8 l0_8.length c0_8) := (blk_cell BK101.out 8).trans rfl
    have hcz18_9 : w12.cell? ⟨gb101, 9, none⟩ = some (.slice A0_9 l0_9.length c0_9) := (blk_cell BK101.out 9).trans rfl
    have hcz18_10 : w12.cell? ⟨gb101, 10, none⟩ = some (.int .i64 a0_10) := (blk_cell BK101.out 10).trans rfl
    have hfz18_0 := blk_frozen BK101.out 0
    have hfz18_1 := blk_frozen BK101.out 1
    have hfz18_2 := blk_frozen BK101.out 2
    have hfz18_3 := blk_frozen BK101.out 3
    have hfz18_4 := blk_frozen BK101.out 4
    have hfz18_5 := blk_frozen BK101.out 5
    have hfz18_6 := blk_frozen BK101.out 6
    have hfz18_7 := blk_frozen BK101.out 7
    have hfz18_8 := blk_frozen BK101.out 8
    have hfz18_9 := blk_frozen BK101.out 9
    have hfz18_10 := blk_frozen BK101.out 10
    go_wp2
    go_meet
    case rel => exact ⟨_, (true), (by first | rfl | (simp; done) | (simp [*]; done)), H', ⟨by first | omega | exact Nat.le_refl _⟩, ⟨by (with_reducible repeat (first | refine blk_drewN ?_ _ | refine blk_drew ?_ | refine blk_alloc ?_ _)); exact BK101.out⟩, ⟨ahx⟩⟩
   rw [if_neg c17] at H
   have c17b0 : decide (a3 < 0) = false := decide_eq_false c17
   clear c17; have H' := Aside0.mk H; clear H; have hcz19_0 : w12.cell? ⟨gb101, 0, none⟩ = some (.string a0_0) := (blk_cell BK101.out 0).trans rfl
   have hcz19_1 : w12.cell? ⟨gb101, 1, none⟩ = some (.slice A0_1 l0_1.length c0_1) := (blk_cell BK101.out 1).trans rfl
   have hcz19_2 : w12.cell? ⟨gb101, 2, none⟩ = some (.int .i64 a0_2) := (blk_cell BK101.out 2).trans rfl
   have hcz19_3 : w12.cell? ⟨gb101, 3, none⟩ = some (.slice A0_3 l0_3.length c0_3) := (blk_cell BK101.out 3).trans rfl
   have hcz19_4 : w12.cell? ⟨gb101, 4, none⟩ = some (.slice A0_4 l0_4.length c0_4) := (blk_cell BK101.out 4).trans rfl
   have hcz19_5 : w12.cell? ⟨gb101, 5, none⟩ = some (.slice A0_5 l0_5.length c0_5) := (blk_cell BK101.out 5).trans rfl
   have hcz19_6 : w12.cell? ⟨gb101, 6, none⟩ = some (.slice A0_6 l0_6.length c0_6) := (blk_cell BK101.out 6).trans rfl
   have hcz19_7 : w12.cell? ⟨gb101, 7, none⟩ = some (.slice A0_7 l0_7.length c0_7) := (blk_cell BK101.out 7).trans rfl
   have hcz19_8 : w12.cell? ⟨gb101, 8, none⟩ = some (.slice A0_8 l0_8.length c0_8) := (blk_cell BK101.out 8).trans rfl
   have hcz19_9 : w12.cell? ⟨gb101, 9, none⟩ = some (.slice A0_9 l0_9.length c0_9) := (blk_cell BK101.out 9).trans rfl
   have hcz19_10 : w12.cell? ⟨gb101, 10, none⟩ = some (.int .i64 a0_10) := (blk_cell BK101.out 10).trans rfl
   have hfz19_0 := blk_frozen BK101.out 0
   have hfz19_1 := blk_frozen BK101.out 1
   have hfz19_2 := blk_frozen BK101.out 2
   have hfz19_3 := blk_frozen BK101.out 3
   have hfz19_4 := blk_frozen BK101.out 4
   have hfz19_5 := blk_frozen BK101.out 5
   have hfz19_6 := blk_frozen BK101.out 6
   have hfz19_7 := blk_frozen BK101.out 7
   have hfz19_8 := blk_frozen BK101.out 8
   have hfz19_9 := blk_frozen BK101.out 9
   have hfz19_10 := blk_frozen BK101.out 10
   go_wp2
   go_meet
   case rel => exact ⟨_, (decide (a3 ≥ 1000)), (by first | rfl | (simp; done) | (simp [*]; done)), H', ⟨by first | omega | exact Nat.le_refl _⟩, ⟨by (with_reducible repeat (first | refine blk_drewN ?_ _ | refine blk_drew ?_ | refine blk_alloc ?_ _)); exact BK101.out⟩, ⟨ahx⟩⟩
  ·replace c13 := Bool.eq_false_iff.mpr c13
   subst c13; have H1 : (bournelaw26_RainEncloses.j0 k l1 l2 a3 l4 t102 true a0_0 l0_1 a0_2 l0_3 l0_4 l0_5 l0_6 l0_7 l0_8 l0_9 a0_10) = some r := by rw [if_neg (show ¬ (false = true) by decide)] at H; exact H
   clear H; have H := H1; clear H1; have H' := Aside0.mk H; clear H; go_wp2
   go_meet
   case rel => exact ⟨_, (true), (by first | rfl | (simp; done) | (simp [*]; done)), H', ⟨by first | omega | exact Nat.le_refl _⟩, ⟨by (with_reducible repeat (first | refine blk_drewN ?_ _ | refine blk_drew ?_ | refine blk_alloc ?_ _)); exact BK101.out⟩, ⟨ahx⟩⟩
 case rest =>
  clear HC8; try clear c1
  try clear c2
  try clear p2
  try clear c4
  try clear c7
  try clear c8
  try clear c13
  try clear c14
  try clear c14b0
  try clear c14b1
  try clear c15
  try clear c15b0
  try clear c17
  try clear c17b0
  try clear hcz11_0
  try clear hcz11_1
  try clear hcz11_10
  try clear hcz11_2
  try clear hcz11_3
  try clear hcz11_4
  try clear hcz11_5
  try clear hcz11_6
  try clear hcz11_7
  try clear hcz11_8
  try clear hcz11_9
  try clear hcz16_0
  try clear hcz16_1
  try clear hcz16_10
  try clear hcz16_2
  try clear hcz16_3
  try clear hcz16_4
  try clear hcz16_5
  try clear hcz16_6
  try clear hcz16_7
  try clear hcz16_8
  try clear hcz16_9
  try clear hcz18_0
  try clear hcz18_1
  try clear hcz18_10
  try clear hcz18_2
  try clear hcz18_3
  try clear hcz18_4
  try clear hcz18_5
  try clear hcz18_6
  try clear hcz18_7
  try clear hcz18_8
  try clear hcz18_9
  try clear hcz19_0
  try clear hcz19_1
  try clear hcz19_10
  try clear hcz19_2
  try clear hcz19_3
  try clear hcz19_4
  try clear hcz19_5
  try clear hcz19_6
  try clear hcz19_7
  try clear hcz19_8
  try clear hcz19_9
  try clear hfz11_0
  try clear hfz11_1
  try clear hfz11_10
  try clear hfz11_2
  try clear hfz11_3
  try clear hfz11_4
  try clear hfz11_5
  try clear hfz11_6
  try clear hfz11_7
  try clear hfz11_8
  try clear hfz11_9
  try clear hfz16_0
  try clear hfz16_1
  try clear hfz16_10
  try clear hfz16_2
  try clear hfz16_3
  try clear hfz16_4
  try clear hfz16_5
  try clear hfz16_6
  try clear hfz16_7
  try clear hfz16_8
  try clear hfz16_9
  try clear hfz18_0
  try clear hfz18_1
  try clear hfz18_10
  try clear hfz18_2
  try clear hfz18_3
  try clear hfz18_4
  try clear hfz18_5
  try clear hfz18_6
  try clear hfz18_7
  try clear hfz18_8
  try clear hfz18_9
  try clear hfz19_0
  try clear hfz19_1
  try clear hfz19_10
  try clear hfz19_2
  try clear hfz19_3
  try clear hfz19_4
  try clear hfz19_5
  try clear hfz19_6
  try clear hfz19_7
  try clear hfz19_8
  try clear hfz19_9
  obtain ⟨kq, x49_7, rfl, HA, HJ7, BK101, HB⟩ := hcut
  cases kq with
  | zero => exact absurd HA.out (by simp [bournelaw26_RainEncloses.j0])
  | succ kj7 =>
   have H := HA.out; clear HA; simp only [bournelaw26_RainEncloses.j0] at H
   by_cases c20 : x49_7 = true
   ·subst c20; have H1 : (some t102) = some r := by rw [if_pos rfl] at H; exact H
    clear H; have H := H1; clear H1; obtain rfl := Option.some.inj H
    go_wp2
    go_ret
    exact ⟨by first | rfl | (simp [errW_none, errW_some] <;> rfl) | (simp [*, errW_none, errW_some] <;> rfl), ahx⟩
   replace c20 := Bool.eq_false_iff.mpr c20
   subst c20; have H1 : (bournelaw26_RainEncloses.l0 kj7 l1 l2 a3 l4 t102 ([] : List Int) 0 a0_0 l0_1 a0_2 l0_3 l0_4 l0_5 l0_6 l0_7 l0_8 l0_9 a0_10) = some r := by rw [if_neg (show ¬ (false = true) by decide)] at H; exact H
   clear H; have H := H1; clear H1; have H' := Aside0.mk H; clear H; go_wp2
   go_loopg [13, 14] kj7 (fun kq v13 v14 w' => ∃ (x13_2 : List Int) (x14_2 : Int), v14 = .int .i64 x14_2 ∧ Aside0 (bournelaw26_RainEncloses.l0 kq l1 l2 a3 l4 t102 x13_2 x14_2 a0_0 l0_1 a0_2 l0_3 l0_4 l0_5 l0_6 l0_7 l0_8 l0_9 a0_10 = some r) ∧ Aside0 (kq ≤ kj7) ∧ Aside0 (Kd.R (Kd.int .i64) 3 w' w.heap.size (fun _ => True) v13 x13_2) ∧ Aside0 (w'.heap[gb101]? = some (.cells #[.string a0_0, (.slice A0_1 l0_1.length c0_1), .int .i64 a0_2, (.slice A0_3 l0_3.length c0_3), (.slice A0_4 l0_4.length c0_4), (.slice A0_5 l0_5.length c0_5), (.slice A0_6 l0_6.length c0_6), (.slice A0_7 l0_7.length c0_7), (.slice A0_8 l0_8.length c0_8), (.slice A0_9 l0_9.length c0_9), .int .i64 a0_10] 41 (0, 0))) ∧ Aside0 (Below w.heap.size w w'))
   case atStart => exact ⟨(([] : List Int)), (0), (by first | rfl | (simp; done) | (simp [*]; done)), H', ⟨Nat.le_refl _⟩, ⟨by first | exact Kd.R_nil _ _ _ _ _ | exact Kd.N_nil _ _ _ _ _ | exact Kd.V_nil _ _ _ _ _ | exact Kd.Q_nil _ _ _ _ _ | exact Kd.S_nil _ _ _ _ _⟩, ⟨by (with_reducible repeat (first | refine blk_drewN ?_ _ | refine blk_drew ?_ | refine blk_alloc ?_ _)); exact BK101.out⟩, ⟨ahx⟩⟩
   case round =>
    clear H'; try clear c1
    try clear c2
    try clear p2
    try clear c4
    try clear c7
    try clear c8
    try clear c13
    try clear c14
    try clear c14b0
    try clear c14b1
    try clear c15
    try clear c15b0
    try clear c17
    try clear c17b0
    try clear c20
    try clear hcz11_0
    try clear hcz11_1
    try clear hcz11_10
    try clear hcz11_2
    try clear hcz11_3
    try clear hcz11_4
    try clear hcz11_5
    try clear hcz11_6
    try clear hcz11_7
    try clear hcz11_8
    try clear hcz11_9
    try clear hcz16_0
    try clear hcz16_1
    try clear hcz16_10
    try clear hcz16_2
    try clear hcz16_3
    try clear hcz16_4
    try clear hcz16_5
    try clear hcz16_6
    try clear hcz16_7
    try clear hcz16_8
    try clear hcz16_9
    try clear hcz18_0
    try clear hcz18_1
    try clear hcz18_10
    try clear hcz18_2
    try clear hcz18_3
    try clear hcz18_4
    try clear hcz18_5
    try clear hcz18_6
    try clear hcz18_7
    try clear hcz18_8
    try clear hcz18_9
    try clear hcz19_0
    try clear hcz19_1
    try clear hcz19_10
    try clear hcz19_2
    try clear hcz19_3
    try clear hcz19_4
    try clear hcz19_5
    try clear hcz19_6
    try clear hcz19_7
    try clear hcz19_8
    try clear hcz19_9
    try clear hfz11_0
    try clear hfz11_1
    try clear hfz11_10
    try clear hfz11_2
    try clear hfz11_3
    try clear hfz11_4
    try clear hfz11_5
    try clear hfz11_6
    try clear hfz11_7
    try clear hfz11_8
    try clear hfz11_9
    try clear hfz16_0
    try clear hfz16_1
    try clear hfz16_10
    try clear hfz16_2
    try clear hfz16_3
    try clear hfz16_4
    try clear hfz16_5
    try clear hfz16_6
    try clear hfz16_7
    try clear hfz16_8
    try clear hfz16_9
    try clear hfz18_0
    try clear hfz18_1
    try clear hfz18_10
    try clear hfz18_2
    try clear hfz18_3
    try clear hfz18_4
    try clear hfz18_5
    try clear hfz18_6
    try clear hfz18_7
    try clear hfz18_8
    try clear hfz18_9
    try clear hfz19_0
    try clear hfz19_1
    try clear hfz19_10
    try clear hfz19_2
    try clear hfz19_3
    try clear hfz19_4
    try clear hfz19_5
    try clear hfz19_6
    try clear hfz19_7
    try clear hfz19_8
    try clear hfz19_9
    try clear p2
    obtain ⟨x13_2, x14_2, rfl, HA, HK2, HO_13, BK101, HB⟩ := hrel
    cases gk with
    | zero => exact absurd HA.out (by simp [bournelaw26_RainEncloses.l0])
    | succ k2 =>
     have H := HA.out; clear HA; simp only [bournelaw26_RainEncloses.l0] at H
     by_cases c21 : x14_2 < (l1.length : Int)
     rotate_left
     ·rw [if_neg c21] at H
      have c21b0 : decide (x14_2 < (l1.length : Int)) = false := decide_eq_false c21
      clear c21; replace H := Option.bind_eq_some_iff.mp H; obtain ⟨t121, A590, H⟩ := H; replace H : (bournelaw26_RainEncloses.l2 k2 l1 t102 t121 0 a0_0 l0_1 a0_2 l0_3 l0_4 l0_5 l0_6 l0_7 l0_8 l0_9 a0_10) = some r := H
      have A59 := Aside0.mk A590
      clear A590; have H' := Aside0.mk H; clear H; have hcz60_0 : wr.cell? ⟨gb101, 0, none⟩ = some (.string a0_0) := (blk_cell BK101.out 0).trans rfl
      have hcz60_1 : wr.cell? ⟨gb101, 1, none⟩ = some (.slice A0_1 l0_1.length c0_1) := (blk_cell BK101.out 1).trans rfl
      have hcz60_2 : wr.cell? ⟨gb101, 2, none⟩ = some (.int .i64 a0_2) := (blk_cell BK101.out 2).trans rfl
      have hcz60_3 : wr.cell? ⟨gb101, 3, none⟩ = some (.slice A0_3 l0_3.length c0_3) := (blk_cell BK101.out 3).trans rfl
      have hcz60_4 : wr.cell? ⟨gb101, 4, none⟩ = some (.slice A0_4 l0_4.length c0_4) := (blk_cell BK101.out 4).trans rfl
      have hcz60_5 : wr.cell? ⟨gb101, 5, none⟩ = some (.slice A0_5 l0_5.length c0_5) := (blk_cell BK101.out 5).trans rfl
      have hcz60_6 : wr.cell? ⟨gb101, 6, none⟩ = some (.slice A0_6 l0_6.length c0_6) := (blk_cell BK101.out 6).trans rfl
      have hcz60_7 : wr.cell? ⟨gb101, 7, none⟩ = some (.slice A0_7 l0_7.length c0_7) := (blk_cell BK101.out 7).trans rfl
      have hcz60_8 : wr.cell? ⟨gb101, 8, none⟩ = some (.slice A0_8 l0_8.length c0_8) := (blk_cell BK101.out 8).trans rfl
      have hcz60_9 : wr.cell? ⟨gb101, 9, none⟩ = some (.slice A0_9 l0_9.length c0_9) := (blk_cell BK101.out 9).trans rfl
      have hcz60_10 : wr.cell? ⟨gb101, 10, none⟩ = some (.int .i64 a0_10) := (blk_cell BK101.out 10).trans rfl
      have hfz60_0 := blk_frozen BK101.out 0
      have hfz60_1 := blk_frozen BK101.out 1
      have hfz60_2 := blk_frozen BK101.out 2
      have hfz60_3 := blk_frozen BK101.out 3
      have hfz60_4 := blk_frozen BK101.out 4
      have hfz60_5 := blk_frozen BK101.out 5
      have hfz60_6 := blk_frozen BK101.out 6
      have hfz60_7 := blk_frozen BK101.out 7
      have hfz60_8 := blk_frozen BK101.out 8
      have hfz60_9 := blk_frozen BK101.out 9
      have hfz60_10 := blk_frozen BK101.out 10
      obtain ⟨Ao61, co61, eo61⟩ := Kd.R_slice HO_13.out
      subst eo61; go_wp2_with (first | ((with_reducible refine gate_dst (N := 25) rfl ?_); (try (refine gate_guard (by rfl) ?_; dsimp only)); first | (refine load_blk (N := 25) rfl rfl 41 (.tmp 5) rfl rfl (afk BK101) (by exact fun h => ld41 h rfl) ?_)) | ((with_reducible refine gate_dst (N := 117) rfl ?_); (try (refine gate_guard (by rfl) ?_; dsimp only)); first | (refine load_blk (N := 117) rfl rfl 41 (.tmp 5) rfl rfl (afk BK101) (by exact fun h => ld41 h rfl) ?_)) | ((with_reducible refine gate_dst (N := 139) rfl ?_); (try (refine gate_guard (by rfl) ?_; dsimp only)); first | (refine load_blk (N := 139) rfl rfl 41 (.tmp 5) rfl rfl (afk BK101) (by exact fun h => ld41 h rfl) ?_)) | ((with_reducible refine gate_dst (N := 160) rfl ?_); (try (refine gate_guard (by rfl) ?_; dsimp only)); first | (refine load_blk (N := 160) rfl rfl 41 (.tmp 5) rfl rfl (afk BK101) (by exact fun h => ld41 h rfl) ?_)) | ((first | ((with_reducible refine gate_callee (f := 18) rfl ?_); refine goesL_ (some 143) rfl rfl Try.func18 (by kernel_rfl) rfl #[.agg #[.string a0_0, .slice A0_1 l0_1.length c0_1, .int .i64 a0_2, .slice A0_3 l0_3.length c0_3, .slice A0_4 l0_4.length c0_4, .slice A0_5 l0_5.length c0_5, .slice A0_6 l0_6.length c0_6, .slice A0_7 l0_7.length c0_7, .slice A0_8 l0_8.length c0_8, .slice A0_9 l0_9.length c0_9, .int .i64 a0_10], .slice Ao61 x13_2.length co61, .int .i64 a3, .slice A4 l4.length c4] rfl (by first | done | rfl) ?_) | go_at_call 18); (with_reducible refine (rain_Cells.calls a0_0 _ _ l0_1 a0_2 _ _ l0_3 _ _ l0_4 _ _ l0_5 _ _ l0_6 _ _ l0_7 _ _ l0_8 _ _ l0_9 a0_10 _ _ x13_2 a3 _ _ l4 t121 _ ?side1 ?side2 ?side3 ?side4 ?side5 ?side6 ?side7 ?side8 ?side9 ?side10 ?side11 ?side12 ?side13 ?side14 ?side15 ?side16 ?side17 ?side18 ?side19 ?side20 A59.out).mono ?_); (case side1 => repeat (first | exact (Kd.C_below HR0_1.out HB.out) | with_reducible first | refine Kd.C_alloc ?_ _ | refine Kd.C_drewN ?_ _ | refine Kd.C_drew ?_)); (case side2 => exact HC0_1.out); (case side3 => repeat (first | exact (Kd.C_below HR0_3.out HB.out) | with_reducible first | refine Kd.C_alloc ?_ _ | refine Kd.C_drewN ?_ _ | refine Kd.C_drew ?_)); (case side4 => exact HC0_3.out); (case side5 => repeat (first | exact (Kd.C_below HR0_4.out HB.out) | with_reducible first | refine Kd.C_alloc ?_ _ | refine Kd.C_drewN ?_ _ | refine Kd.C_drew ?_)); (case side6 => exact HC0_4.out); (case side7 => repeat (first | exact (Kd.C_below HR0_5.out HB.out) | with_reducible first | refine Kd.C_alloc ?_ _ | refine Kd.C_drewN ?_ _ | refine Kd.C_drew ?_)); (case side8 => exact HC0_5.out); (case side9 => repeat (first | exact (Kd.C_below HR0_6.out HB.out) | with_reducible first | refine Kd.C_alloc ?_ _ | refine Kd.C_drewN ?_ _ | refine Kd.C_drew ?_)); (case side10 => exact HC0_6.out); (case side11 => repeat (first | exact (Kd.C_below HR0_7.out HB.out) | with_reducible first | refine Kd.C_alloc ?_ _ | refine Kd.C_drewN ?_ _ | refine Kd.C_drew ?_)); (case side12 => exact HC0_7.out); (case side13 => repeat (first | exact (Kd.C_below HR0_8.out HB.out) | with_reducible first | refine Kd.C_alloc ?_ _ | refine Kd.C_drewN ?_ _ | refine Kd.C_drew ?_)); (case side14 => exact HC0_8.out); (case side15 => repeat (first | exact (Kd.C_below HR0_9.out HB.out) | with_reducible first | refine Kd.C_alloc ?_ _ | refine Kd.C_drewN ?_ _ | refine Kd.C_drew ?_)); (case side16 => exact HC0_9.out); (case side17 => repeat (first | exact (Kd.R_reads' HO_13.out).2.2 | with_reducible first | refine Kd.C_alloc ?_ _ | refine Kd.C_drewN ?_ _ | refine Kd.C_drew ?_)); (case side18 => exact (Kd.R_reads' HO_13.out).2.1); (case side19 => repeat (first | exact (Kd.C_below HR4.out HB.out) | with_reducible first | refine Kd.C_alloc ?_ _ | refine Kd.C_drewN ?_ _ | refine Kd.C_drew ?_)); (case side20 => exact HC4.out); rintro e w62 ⟨v122, rfl, ho0, hb⟩; (first | with_reducible refine ⟨_, rfl, ?_⟩ | skip); have n0_ := Aside0.mk (Kd.R_below (by (with_reducible repeat (first | apply Kd.R_alloc | apply Kd.R_drewN | apply Kd.R_drew)); exact HO_13.out) hb); have n1_ := Aside0.mk (Kd.R_lower ho0 (below_size ahx)); have n2_ := Aside0.mk (blk_below (g := gb101) (o := .cells #[.string a0_0, .slice A0_1 l0_1.length c0_1, .int .i64 a0_2, .slice A0_3 l0_3.length c0_3, .slice A0_4 l0_4.length c0_4, .slice A0_5 l0_5.length c0_5, .slice A0_6 l0_6.length c0_6, .slice A0_7 l0_7.length c0_7, .slice A0_8 l0_8.length c0_8, .slice A0_9 l0_9.length c0_9, .int .i64 a0_10] 41 (0, 0)) abx hb); have n3_ := Aside0.mk (below_step ahx hb); clear HO_13; clear BK101; clear HB; have HO_13 := n0_; have HO123 := n1_; have BK101 := n2_; have HB := n3_; clear n0_ n1_ n2_ n3_; (try clear hb); (try clear hb2); (try clear hk); (try clear hi); (try clear ho0)))
      go_loopg [19] k2 (fun kq v19 w' => ∃ (x19_3 : Int), v19 = .int .i64 x19_3 ∧ Aside0 (bournelaw26_RainEncloses.l2 kq l1 t102 t121 x19_3 a0_0 l0_1 a0_2 l0_3 l0_4 l0_5 l0_6 l0_7 l0_8 l0_9 a0_10 = some r) ∧ Aside0 (kq ≤ k2) ∧ Aside0 (Kd.R k26 26 w' w.heap.size (fun _ => True) v122 t121) ∧ Aside0 (w'.heap[gb101]? = some (.cells #[.string a0_0, (.slice A0_1 l0_1.length c0_1), .int .i64 a0_2, (.slice A0_3 l0_3.length c0_3), (.slice A0_4 l0_4.length c0_4), (.slice A0_5 l0_5.length c0_5), (.slice A0_6 l0_6.length c0_6), (.slice A0_7 l0_7.length c0_7), (.slice A0_8 l0_8.length c0_8), (.slice A0_9 l0_9.length c0_9), .int .i64 a0_10] 41 (0, 0))) ∧ Aside0 (Below w.heap.size w w'))
      case atStart => exact ⟨(0), (by first | rfl | (simp; done) | (simp [*]; done)), H', ⟨Nat.le_refl _⟩, ⟨by (with_reducible repeat (first | apply Kd.R_alloc | apply Kd.R_drewN | apply Kd.R_drew)); exact HO123.out⟩, ⟨by (with_reducible repeat (first | refine blk_drewN ?_ _ | refine blk_drew ?_ | refine blk_alloc ?_ _)); exact BK101.out⟩, ⟨ahx⟩⟩
      case round =>
       clear H'; try clear c1
       try clear p1
       try clear q1
       try clear hx1
       try clear c2
       try clear p2
       try clear c3
       try clear c4
       try clear p6
       try clear p11
       try clear q11
       try clear hx11
       try clear c12
       try clear c18
       try clear c21
       try clear c21b0
       try clear c25
       try clear c26
       try clear c27
       try clear c32
       try clear c33
       try clear c38
       try clear c40
       try clear c40b0
       try clear c41
       try clear c43
       try clear c44
       try clear c45
       try clear c47
       try clear hcz60_0
       try clear hcz60_1
       try clear hcz60_10
       try clear hcz60_2
       try clear hcz60_3
       try clear hcz60_4
       try clear hcz60_5
       try clear hcz60_6
       try clear hcz60_7
       try clear hcz60_8
       try clear hcz60_9
       try clear hfz60_0
       try clear hfz60_1
       try clear hfz60_10
       try clear hfz60_2
       try clear hfz60_3
       try clear hfz60_4
       try clear hfz60_5
       try clear hfz60_6
       try clear hfz60_7
       try clear hfz60_8
       try clear hfz60_9
       try clear hx116_0
       try clear hx116_1
       try clear hx116_2
       try clear hx116_3
       try clear hx118_0
       try clear hx118_1
       try clear hx118_2
       try clear hx118_3
       try clear hx119_0
       try clear p116
       try clear p118
       try clear p119
       try clear q116
       try clear q118
       try clear q119
       obtain ⟨x19_3, rfl, HA, HK3, HO_18, BK101, HB⟩ := hrel
       cases gk with
       | zero => exact absurd HA.out (by simp [bournelaw26_RainEncloses.l2])
       | succ k3 =>
        have H := HA.out; clear HA; simp only [bournelaw26_RainEncloses.l2] at H
        by_cases c63 : x19_3 < (t121.length : Int)
        ·rw [if_pos c63] at H
         have c63b0 : decide (x19_3 < (t121.length : Int)) = true := decide_eq_true c63
         clear c63
         by_cases c64 : 0 ≤ x19_3
         rotate_left
         ·rw [if_neg c64] at H
          exact NF.go H hr.out (by repeat' first | exact NF.none | exact NF.ff | refine NF.ite ?_ ?_ | refine NF.bind (fun _ => ?_))
         rw [if_pos c64] at H
         have c64b0 : decide (0 ≤ x19_3) = true := decide_eq_true c64
         clear c64
         by_cases c65 : x19_3 < (l1.length : Int)
         rotate_left
         ·rw [if_neg c65] at H
          exact NF.go H hr.out (by repeat' first | exact NF.none | exact NF.ff | refine NF.ite ?_ ?_ | refine NF.bind (fun _ => ?_))
         rw [if_pos c65] at H
         have c65b0 : decide (x19_3 < (l1.length : Int)) = true := decide_eq_true c65
         clear c65; replace H := Option.bind_eq_some_iff.mp H; obtain ⟨t126, A660, H⟩ := H; replace H : (if t126 = true then (bournelaw26_RainEncloses.l2 k3 l1 t102 t121 (wrap64 (x19_3 + 1)) a0_0 l0_1 a0_2 l0_3 l0_4 l0_5 l0_6 l0_7 l0_8 l0_9 a0_10) else (some false)) = some r := H
         have A66 := Aside0.mk A660
         clear A660
         by_cases c67 : t126 = true
         rotate_left
         ·replace c67 := Bool.eq_false_iff.mpr c67
          subst c67; have H1 : (some false) = some r := by rw [if_neg (show ¬ (false = true) by decide)] at H; exact H
          clear H; have H := H1; clear H1; exact NF.go H hr.out (by repeat' first | exact NF.none | exact NF.ff | refine NF.ite ?_ ?_ | refine NF.bind (fun _ => ?_))
         subst c67; have H1 : (bournelaw26_RainEncloses.l2 k3 l1 t102 t121 (wrap64 (x19_3 + 1)) a0_0 l0_1 a0_2 l0_3 l0_4 l0_5 l0_6 l0_7 l0_8 l0_9 a0_10) = some r := by rw [if_pos rfl] at H; exact H
         clear H; have H := H1; clear H1; have H' := Aside0.mk H; clear H; obtain ⟨Ao68, co68, eo68⟩ := Kd.R_slice HO_18.out
         subst eo68; try go_wp2
         have n0_ := Aside0.mk (Kd.R_drew HO_18.out); have n1_ := Aside0.mk (blk_drew BK101.out); have n2_ := Aside0.mk (below_drew1 HB.out); clear HO_18; clear BK101; clear HB; have HO_18 := n0_; have BK101 := n1_; have HB := n2_; clear n0_ n1_ n2_; have p124 : 0 ≤ (x19_3 : Int) := of_decide_eq_true (by first | (with_reducible assumption) | assumption)
         have q124 : x19_3 < (t121.length : Int) := of_decide_eq_true (by first | (with_reducible assumption) | assumption)
         obtain ⟨ad124, e124, hx124_0, hx124_1⟩ := at_T26 (Kd.R_reads' HO_18.out).2.2 x19_3 p124 q124
         cases e124
         replace p124 := eq_true p124
         replace q124 := eq_true q124
         have p125 : 0 ≤ (x19_3 : Int) := of_decide_eq_true (by first | (with_reducible assumption) | assumption)
         have q125 : x19_3 < (l1.length : Int) := of_decide_eq_true (by first | (with_reducible assumption) | assumption)
         obtain ⟨ad125, e125, hx125_0⟩ := Kd.at_int HR1.out x19_3 p125 q125
         have hw125_0 := hx125_0
         cases e125
         replace hx125_0 := (HB.out.cell (World.block_lt_of_cell? w _ hx125_0)).trans hx125_0
         replace p125 := eq_true p125
         replace q125 := eq_true q125
         refine start_ (n := 10) (S := fun w' => w'.cell? (ad124.add ((x19_3).toNat * 2)) = some (.int .i64 ((rd_T26 t121 x19_3).f0)) ∧ w'.cell? ⟨(ad124.add ((x19_3).toNat * 2)).block, (ad124.add ((x19_3).toNat * 2)).off + 1, none⟩ = some (.int .i64 ((rd_T26 t121 x19_3).f1)) ∧ w'.cell? (ad125.add (x19_3).toNat) = some (.int .i64 (rd l1 x19_3))) (ds := []) #[O,O,O,O,O,O,O,O,O,O] (by kernel_rfl) rfl rfl ⟨hx124_0, hx124_1, ((HB.out.cell (World.block_lt_of_cell? w _ hw125_0)).trans hw125_0)⟩ (fun hHeld => ?_); refine with_tabW bournelaw26_RainEncloses.tab27 bournelaw26_RainEncloses.bits27 (fun HT_ HW_ => ?_)
         generalize wr.drew = w69 at HO_18 BK101 HB hx124_0 hx124_1 hx125_0 hHeld ⊢
         as_aux_lemma =>
         refine pure_ (i := 0) (N := some 150) (v := ?_) (a' := ?_) #[Z,O,O,O,O,O,O,O,O,O] rfl rfl (any_of HT_.out (by kernel_rfl)) (fun _ _ _ h => h) (Or.inl ⟨by rfl, ?_⟩) ?_ ?_; rotate_left
         ·intro w'; go_simp; with_reducible rfl
         rotate_left
         ·simp only [Act.put, zA, zB, zC, i64_w, i32_w]; rfl
         as_aux_lemma =>
         refine pure_ (i := 1) (N := some 151) (v := ?_) (a' := ?_) #[Z,Z,O,O,O,O,O,O,O,O] rfl rfl (any_of HT_.out (by kernel_rfl)) (fun _ _ _ h => h) (Or.inl ⟨by rfl, ?_⟩) ?_ ?_; rotate_left
         ·intro w'; go_simp; with_reducible rfl
         rotate_left
         ·simp only [Act.put, zA, zB, zC, i64_w, i32_w]; rfl
         as_aux_lemma =>
         refine pure_ (i := 2) (N := some 152) (v := ?_) (a' := ?_) #[Z,Z,Z,O,O,O,O,O,O,O] rfl rfl (any_of HT_.out (by kernel_rfl)) (fun _ _ _ h => h) (Or.inl ⟨by rfl, ?_⟩) ?_ ?_; rotate_left
         ·intro w'; go_simp; with_reducible rfl
         rotate_left
         ·simp only [Act.put, zA, zB, zC, i64_w, i32_w]; rfl
         as_aux_lemma =>
         refine pure_ (i := 4) (N := some 154) (v := ?_) (a' := ?_) #[Z,Z,Z,O,Z,O,O,O,O,O] rfl rfl (any_of HT_.out (by kernel_rfl)) (fun _ _ _ h => h) (Or.inl ⟨by rfl, ?_⟩) ?_ ?_; rotate_left
         ·intro w'; go_simp; with_reducible rfl
         rotate_left
         ·simp only [Act.put, zA, zB, zC, i64_w, i32_w]; rfl
         as_aux_lemma =>
         refine pure_ (i := 5) (N := some 155) (v := ?_) (a' := ?_) #[Z,Z,Z,O,Z,Z,O,O,O,O] rfl rfl (any_of HT_.out (by kernel_rfl)) (fun _ _ _ h => h) (Or.inl ⟨by rfl, ?_⟩) ?_ ?_; rotate_left
         ·intro w'; go_simp; with_reducible rfl
         rotate_left
         ·simp only [Act.put, zA, zB, zC, i64_w, i32_w]; rfl
         as_aux_lemma =>
         refine pure_ (i := 6) (N := some 156) (v := ?_) (a' := ?_) #[Z,Z,Z,O,Z,Z,Z,O,O,O] rfl rfl (any_of HT_.out (by kernel_rfl)) (fun _ _ _ h => h) (Or.inl ⟨by rfl, ?_⟩) ?_ ?_; rotate_left
         ·intro w'; go_simp; with_reducible rfl
         rotate_left
         ·simp only [Act.put, zA, zB, zC, i64_w, i32_w]; rfl
         as_aux_lemma =>
         refine take_ (i := 3) (N := some 153) (v := ?_) (a' := ?_) #[Z,Z,Z,Z,Z,Z,Z,O,O,O] rfl rfl (take_ofW HT_.out HW_.out (by kernel_rfl)) (fun _ _ _ h => h) (Or.inl ⟨by rfl, ?_⟩) hHeld ?_ ?_; rotate_left
         ·rintro w' ⟨s0, s1, s2⟩
          go_simp; with_reducible rfl
         rotate_left
         ·simp only [Act.put, zA, zB, zC, i64_w, i32_w]; rfl
         as_aux_lemma =>
         refine take_ (i := 7) (N := some 157) (v := ?_) (a' := ?_) #[Z,Z,Z,Z,Z,Z,Z,Z,O,O] rfl rfl (take_ofW HT_.out HW_.out (by kernel_rfl)) (fun _ _ _ h => h) (Or.inl ⟨by rfl, ?_⟩) hHeld ?_ ?_; rotate_left
         ·rintro w' ⟨s0, s1, s2⟩
          go_simp; with_reducible rfl
         rotate_left
         ·simp only [Act.put, zA, zB, zC, i64_w, i32_w]; rfl
         as_aux_lemma =>
         refine one_ (i := 8) (N := some 158) #[Z,Z,Z,Z,Z,Z,Z,Z,Z,O] rfl rfl (one_of HT_.out (by kernel_rfl)) (by decide) (fun K hK => ?_)
         refine goes_ Try.func12 (by kernel_rfl) rfl #[.agg #[.int .i64 ((rd_T26 t121 x19_3).f0), .int .i64 ((rd_T26 t121 x19_3).f1)], .int .i64 (rd l1 x19_3)] (by rfl) rfl rfl (by (try simp only [List.map_toArray, List.map_cons, List.map_nil]); first | done | rfl | (simp only [List.length_drop, List.length_take]; rfl)) ?_; with_reducible refine (span_Has.calls ((rd_T26 t121 x19_3).f0) ((rd_T26 t121 x19_3).f1) (rd l1 x19_3) true _ A66.out).mono ?_
         rintro e w70 ⟨rfl, hb⟩
         have HS0_ := (hb.cell (World.block_lt_of_cell? _ _ (hHeld.1))).trans (hHeld.1)
         have HS1_ := (hb.cell (World.block_lt_of_cell? _ _ (hHeld.2.1))).trans (hHeld.2.1)
         refine ⟨_, rfl, ?_⟩
         have n0_ := Aside0.mk (Kd.R_below (by (with_reducible repeat (first | apply Kd.R_alloc | apply Kd.R_drewN | apply Kd.R_drew)); exact HO_18.out) hb); have n1_ := Aside0.mk (blk_below (g := gb101) (o := .cells #[.string a0_0, .slice A0_1 l0_1.length c0_1, .int .i64 a0_2, .slice A0_3 l0_3.length c0_3, .slice A0_4 l0_4.length c0_4, .slice A0_5 l0_5.length c0_5, .slice A0_6 l0_6.length c0_6, .slice A0_7 l0_7.length c0_7, .slice A0_8 l0_8.length c0_8, .slice A0_9 l0_9.length c0_9, .int .i64 a0_10] 41 (0, 0)) abx hb); have n2_ := Aside0.mk (below_step ahx hb); clear HO_18; clear BK101; clear HB; have HO_18 := n0_; have BK101 := n1_; have HB := n2_; clear n0_ n1_ n2_; (try clear hb); (try clear hb2); (try clear hk); (try clear hi); refine hK.out _ _ ⟨HS0_, HS1_, ((HB.out.cell (World.block_lt_of_cell? w _ hw125_0)).trans hw125_0)⟩ (fun hHeld => ?_)
         clear hK K
         as_aux_lemma =>
         refine norm_ (a' := ?_) ?_ ?_; rotate_left
         ·show Act.put _ (some 158) _ = _; simp only [Act.put, zA, zB, zC, i64_w, i32_w]; rfl
         as_aux_lemma =>
         refine pure_ (i := 9) (N := some 159) (v := ?_) (a' := ?_) #[Z,Z,Z,Z,Z,Z,Z,Z,Z,Z] rfl rfl (any_of HT_.out (by kernel_rfl)) (fun _ _ _ h => h) (Or.inl ⟨by rfl, ?_⟩) ?_ ?_; rotate_left
         ·intro w'; go_simp; with_reducible rfl
         rotate_left
         ·simp only [Act.put, zA, zB, zC, i64_w, i32_w]; rfl
         refine done_ (done_of HT_.out (by kernel_rfl)) ?_
         try go_wp2
         go_roundg k3
         case measure => have := HJ7.out; have := HK2.out; have := HK3.out; omega
         case rel => exact ⟨(wrap64 (x19_3 + 1)), (by first | rfl | (simp; done) | (simp [*]; done)), H', ⟨by have := HJ7.out; have := HK2.out; have := HK3.out; omega⟩, ⟨by (with_reducible repeat (first | apply Kd.R_alloc | apply Kd.R_drewN | apply Kd.R_drew)); exact HO_18.out⟩, ⟨by (with_reducible repeat (first | refine blk_drewN ?_ _ | refine blk_drew ?_ | refine blk_alloc ?_ _)); exact BK101.out⟩, ⟨ahx⟩⟩
        rw [if_neg c63] at H
        have c63b0 : decide (x19_3 < (t121.length : Int)) = false := decide_eq_false c63
        clear c63; replace H := Option.bind_eq_some_iff.mp H; obtain ⟨t127, A710, H⟩ := H; replace H : (bournelaw26_RainEncloses.l3 k3 l1 t102 t127 0 0 a0_0 l0_1 a0_2 l0_3 l0_4 l0_5 l0_6 l0_7 l0_8 l0_9 a0_10) = some r := H
        have A71 := Aside0.mk A710
        clear A710; have H' := Aside0.mk H; clear H; obtain ⟨Ao72, co72, eo72⟩ := Kd.R_slice HO_18.out
        subst eo72; have hcz73_0 : wr.cell? ⟨gb101, 0, none⟩ = some (.string a0_0) := (blk_cell BK101.out 0).trans rfl
        have hcz73_1 : wr.cell? ⟨gb101, 1, none⟩ = some (.slice A0_1 l0_1.length c0_1) := (blk_cell BK101.out 1).trans rfl
        have hcz73_2 : wr.cell? ⟨gb101, 2, none⟩ = some (.int .i64 a0_2) := (blk_cell BK101.out 2).trans rfl
        have hcz73_3 : wr.cell? ⟨gb101, 3, none⟩ = some (.slice A0_3 l0_3.length c0_3) := (blk_cell BK101.out 3).trans rfl
        have hcz73_4 : wr.cell? ⟨gb101, 4, none⟩ = some (.slice A0_4 l0_4.length c0_4) := (blk_cell BK101.out 4).trans rfl
        have hcz73_5 : wr.cell? ⟨gb101, 5, none⟩ = some (.slice A0_5 l0_5.length c0_5) := (blk_cell BK101.out 5).trans rfl
        have hcz73_6 : wr.cell? ⟨gb101, 6, none⟩ = some (.slice A0_6 l0_6.length c0_6) := (blk_cell BK101.out 6).trans rfl
        have hcz73_7 : wr.cell? ⟨gb101, 7, none⟩ = some (.slice A0_7 l0_7.length c0_7) := (blk_cell BK101.out 7).trans rfl
        have hcz73_8 : wr.cell? ⟨gb101, 8, none⟩ = some (.slice A0_8 l0_8.length c0_8) := (blk_cell BK101.out 8).trans rfl
        have hcz73_9 : wr.cell? ⟨gb101, 9, none⟩ = some (.slice A0_9 l0_9.length c0_9) := (blk_cell BK101.out 9).trans rfl
        have hcz73_10 : wr.cell? ⟨gb101, 10, none⟩ = some (.int .i64 a0_10) := (blk_cell BK101.out 10).trans rfl
        have hfz73_0 := blk_frozen BK101.out 0
        have hfz73_1 := blk_frozen BK101.out 1
        have hfz73_2 := blk_frozen BK101.out 2
        have hfz73_3 := blk_frozen BK101.out 3
        have hfz73_4 := blk_frozen BK101.out 4
        have hfz73_5 := blk_frozen BK101.out 5
        have hfz73_6 := blk_frozen BK101.out 6
        have hfz73_7 := blk_frozen BK101.out 7
        have hfz73_8 := blk_frozen BK101.out 8
        have hfz73_9 := blk_frozen BK101.out 9
        have hfz73_10 := blk_frozen BK101.out 10
        go_wp2_with (first | ((with_reducible refine gate_dst (N := 25) rfl ?_); (try (refine gate_guard (by rfl) ?_; dsimp only)); first | (refine load_blk (N := 25) rfl rfl 41 (.tmp 5) rfl rfl (afk BK101) (by exact fun h => ld41 h rfl) ?_)) | ((with_reducible refine gate_dst (N := 117) rfl ?_); (try (refine gate_guard (by rfl) ?_; dsimp only)); first | (refine load_blk (N := 117) rfl rfl 41 (.tmp 5) rfl rfl (afk BK101) (by exact fun h => ld41 h rfl) ?_)) | ((with_reducible refine gate_dst (N := 139) rfl ?_); (try (refine gate_guard (by rfl) ?_; dsimp only)); first | (refine load_blk (N := 139) rfl rfl 41 (.tmp 5) rfl rfl (afk BK101) (by exact fun h => ld41 h rfl) ?_)) | ((with_reducible refine gate_dst (N := 160) rfl ?_); (try (refine gate_guard (by rfl) ?_; dsimp only)); first | (refine load_blk (N := 160) rfl rfl 41 (.tmp 5) rfl rfl (afk BK101) (by exact fun h => ld41 h rfl) ?_)) | ((first | ((with_reducible refine gate_callee (f := 15) rfl ?_); refine goesL_ (some 162) rfl rfl Try.func15 (by kernel_rfl) rfl #[.agg #[.string a0_0, .slice A0_1 l0_1.length c0_1, .int .i64 a0_2, .slice A0_3 l0_3.length c0_3, .slice A0_4 l0_4.length c0_4, .slice A0_5 l0_5.length c0_5, .slice A0_6 l0_6.length c0_6, .slice A0_7 l0_7.length c0_7, .slice A0_8 l0_8.length c0_8, .slice A0_9 l0_9.length c0_9, .int .i64 a0_10], .slice Ao72 t121.length co72] rfl (by first | done | rfl) ?_) | go_at_call 15); (with_reducible refine (rain_Mesh.calls a0_0 _ _ l0_1 a0_2 _ _ l0_3 _ _ l0_4 _ _ l0_5 _ _ l0_6 _ _ l0_7 _ _ l0_8 _ _ l0_9 a0_10 _ _ t121 t127 _ ?side1 ?side2 ?side3 ?side4 ?side5 ?side6 ?side7 ?side8 ?side9 ?side10 ?side11 ?side12 ?side13 ?side14 ?side15 ?side16 ?side17 ?side18 A71.out).mono ?_); (case side1 => repeat (first | exact (Kd.C_below HR0_1.out HB.out) | with_reducible first | refine Kd.C_alloc ?_ _ | refine Kd.C_drewN ?_ _ | refine Kd.C_drew ?_)); (case side2 => exact HC0_1.out); (case side3 => repeat (first | exact (Kd.C_below HR0_3.out HB.out) | with_reducible first | refine Kd.C_alloc ?_ _ | refine Kd.C_drewN ?_ _ | refine Kd.C_drew ?_)); (case side4 => exact HC0_3.out); (case side5 => repeat (first | exact (Kd.C_below HR0_4.out HB.out) | with_reducible first | refine Kd.C_alloc ?_ _ | refine Kd.C_drewN ?_ _ | refine Kd.C_drew ?_)); (case side6 => exact HC0_4.out); (case side7 => repeat (first | exact (Kd.C_below HR0_5.out HB.out) | with_reducible first | refine Kd.C_alloc ?_ _ | refine Kd.C_drewN ?_ _ | refine Kd.C_drew ?_)); (case side8 => exact HC0_5.out); (case side9 => repeat (first | exact (Kd.C_below HR0_6.out HB.out) | with_reducible first | refine Kd.C_alloc ?_ _ | refine Kd.C_drewN ?_ _ | refine Kd.C_drew ?_)); (case side10 => exact HC0_6.out); (case side11 => repeat (first | exact (Kd.C_below HR0_7.out HB.out) | with_reducible first | refine Kd.C_alloc ?_ _ | refine Kd.C_drewN ?_ _ | refine Kd.C_drew ?_)); (case side12 => exact HC0_7.out); (case side13 => repeat (first | exact (Kd.C_below HR0_8.out HB.out) | with_reducible first | refine Kd.C_alloc ?_ _ | refine Kd.C_drewN ?_ _ | refine Kd.C_drew ?_)); (case side14 => exact HC0_8.out); (case side15 => repeat (first | exact (Kd.C_below HR0_9.out HB.out) | with_reducible first | refine Kd.C_alloc ?_ _ | refine Kd.C_drewN ?_ _ | refine Kd.C_drew ?_)); (case side16 => exact HC0_9.out); (case side17 => repeat (first | exact (Kd.R_reads' HO_18.out).2.2 | with_reducible first | refine Kd.C_alloc ?_ _ | refine Kd.C_drewN ?_ _ | refine Kd.C_drew ?_)); (case side18 => exact (Kd.R_reads' HO_18.out).2.1); rintro e w74 ⟨v128, rfl, ho0, hb⟩; (first | with_reducible refine ⟨_, rfl, ?_⟩ | skip); have n0_ := Aside0.mk (Kd.R_elder' (by (with_reducible repeat (first | apply Kd.R_alloc | apply Kd.R_drewN | apply Kd.R_drew)); exact HO_18.out) (Kd.R_base ho0) hb); have n1_ := Aside0.mk (Kd.R_lower (Kd.R_new' ho0 (Kd.R_lt (by (with_reducible repeat (first | apply Kd.R_alloc | apply Kd.R_drewN | apply Kd.R_drew)); exact HO_18.out))) (below_size ahx)); have n2_ := Aside0.mk (blk_below (g := gb101) (o := .cells #[.string a0_0, .slice A0_1 l0_1.length c0_1, .int .i64 a0_2, .slice A0_3 l0_3.length c0_3, .slice A0_4 l0_4.length c0_4, .slice A0_5 l0_5.length c0_5, .slice A0_6 l0_6.length c0_6, .slice A0_7 l0_7.length c0_7, .slice A0_8 l0_8.length c0_8, .slice A0_9 l0_9.length c0_9, .int .i64 a0_10] 41 (0, 0)) abx hb); have n3_ := Aside0.mk (below_step ahx hb); clear HO_18; clear BK101; clear HB; have HO_18 := n0_; have HO129 := n1_; have BK101 := n2_; have HB := n3_; clear n0_ n1_ n2_ n3_; (try clear hb); (try clear hb2); (try clear hk); (try clear hi); (try clear ho0)))
        go_loopg [21, 22] k3 (fun kq v21 v22 w' => ∃ (x21_4 : Int) (x22_4 : Int), v21 = .int .i64 x21_4 ∧ v22 = .int .i64 x22_4 ∧ Aside0 (bournelaw26_RainEncloses.l3 kq l1 t102 t127 x21_4 x22_4 a0_0 l0_1 a0_2 l0_3 l0_4 l0_5 l0_6 l0_7 l0_8 l0_9 a0_10 = some r) ∧ Aside0 (kq ≤ k3) ∧ Aside0 (Kd.R k26 26 w' w.heap.size (fun _ => True) v128 t127) ∧ Aside0 (w'.heap[gb101]? = some (.cells #[.string a0_0, (.slice A0_1 l0_1.length c0_1), .int .i64 a0_2, (.slice A0_3 l0_3.length c0_3), (.slice A0_4 l0_4.length c0_4), (.slice A0_5 l0_5.length c0_5), (.slice A0_6 l0_6.length c0_6), (.slice A0_7 l0_7.length c0_7), (.slice A0_8 l0_8.length c0_8), (.slice A0_9 l0_9.length c0_9), .int .i64 a0_10] 41 (0, 0))) ∧ Aside0 (Below w.heap.size w w'))
        case atStart => exact ⟨(0), (0), (by first | rfl | (simp; done) | (simp [*]; done)), (by first | rfl | (simp; done) | (simp [*]; done)), H', ⟨Nat.le_refl _⟩, ⟨by (with_reducible repeat (first | apply Kd.R_alloc | apply Kd.R_drewN | apply Kd.R_drew)); exact Kd.R_mono HO129.out (fun _ hk => trivial)⟩, ⟨by (with_reducible repeat (first | refine blk_drewN ?_ _ | refine blk_drew ?_ | refine blk_alloc ?_ _)); exact BK101.out⟩, ⟨ahx⟩⟩
        case round =>
         clear H'; try clear c1
         try clear p1
         try clear q1
         try clear hx1
         try clear c2
         try clear p2
         try clear c3
         try clear c4
         try clear c6
         try clear p6
         try clear p11
         try clear q11
         try clear hx11
         try clear c12
         try clear p12
         try clear q12
         try clear hx12
         try clear c15
         try clear c18
         try clear c21
         try clear c21b0
         try clear c25
         try clear c26
         try clear c27
         try clear c32
         try clear c33
         try clear c38
         try clear c40
         try clear c40b0
         try clear c41
         try clear c43
         try clear c44
         try clear c45
         try clear c47
         try clear c63
         try clear c63b0
         try clear c64
         try clear c64b0
         try clear p64
         try clear c65
         try clear c65b0
         try clear c67
         try clear hcz60_0
         try clear hcz60_1
         try clear hcz60_10
         try clear hcz60_2
         try clear hcz60_3
         try clear hcz60_4
         try clear hcz60_5
         try clear hcz60_6
         try clear hcz60_7
         try clear hcz60_8
         try clear hcz60_9
         try clear hcz73_0
         try clear hcz73_1
         try clear hcz73_10
         try clear hcz73_2
         try clear hcz73_3
         try clear hcz73_4
         try clear hcz73_5
         try clear hcz73_6
         try clear hcz73_7
         try clear hcz73_8
         try clear hcz73_9
         try clear hfz60_0
         try clear hfz60_1
         try clear hfz60_10
         try clear hfz60_2
         try clear hfz60_3
         try clear hfz60_4
         try clear hfz60_5
         try clear hfz60_6
         try clear hfz60_7
         try clear hfz60_8
         try clear hfz60_9
         try clear hfz73_0
         try clear hfz73_1
         try clear hfz73_10
         try clear hfz73_2
         try clear hfz73_3
         try clear hfz73_4
         try clear hfz73_5
         try clear hfz73_6
         try clear hfz73_7
         try clear hfz73_8
         try clear hfz73_9
         try clear hx116_0
         try clear hx116_1
         try clear hx116_2
         try clear hx116_3
         try clear hx118_0
         try clear hx118_1
         try clear hx118_2
         try clear hx118_3
         try clear hx119_0
         try clear hx124_0
         try clear hx124_1
         try clear hx125_0
         try clear p1
         try clear p11
         try clear p116
         try clear p118
         try clear p119
         try clear p124
         try clear p125
         try clear p2
         try clear p6
         try clear q1
         try clear q11
         try clear q116
         try clear q118
         try clear q119
         try clear q124
         try clear q125
         obtain ⟨x21_4, x22_4, rfl, rfl, HA, HK4, HO_20, BK101, HB⟩ := hrel
         cases gk with
         | zero => exact absurd HA.out (by simp [bournelaw26_RainEncloses.l3])
         | succ k4 =>
          have H := HA.out; clear HA; simp only [bournelaw26_RainEncloses.l3] at H
          by_cases c75 : x22_4 < (l0_3.length : Int)
          rotate_left
          ·rw [if_neg c75] at H
           have c75b0 : decide (x22_4 < (l0_3.length : Int)) = false := decide_eq_false c75
           clear c75
           by_cases c92 : t102 = true
           rotate_left
           ·replace c92 := Bool.eq_false_iff.mpr c92
            subst c92; have H1 : (some false) = some r := by rw [if_neg (show ¬ (false = true) by decide)] at H; exact H
            clear H; have H := H1; clear H1; exact NF.go H hr.out (by repeat' first | exact NF.none | exact NF.ff | refine NF.ite ?_ ?_ | refine NF.bind (fun _ => ?_))
           subst c92; have H1 : (if (t127.length : Int) = (l0_3.length : Int) then ((rain_Sum.f t127).bind fun bt136 => ((span_Has.f bt136.1 bt136.2 x21_4).bind fun t138 => (some t138))) else (some false)) = some r := by rw [if_pos rfl] at H; exact H
           clear H; have H := H1; clear H1
           by_cases c93 : (t127.length : Int) = (l0_3.length : Int)
           rotate_left
           ·rw [if_neg c93] at H
            have c93b0 : ((t127.length : Int) == (l0_3.length : Int)) = false := beq_eq_false_iff_ne.mpr c93
            have c93b1 : ((t127.length : Int) != (l0_3.length : Int)) = true := bne_iff_ne.mpr c93
            have c93b2 : (t127.length == l0_3.length) = false := by first | simpa using c93 | (simp at c93 ⊢; omega)
            exact NF.go H hr.out (by repeat' first | exact NF.none | exact NF.ff | refine NF.ite ?_ ?_ | refine NF.bind (fun _ => ?_))
           rw [if_pos c93] at H
           have c93b0 : ((t127.length : Int) == (l0_3.length : Int)) = true := beq_iff_eq.mpr c93
           have c93b1 : ((t127.length : Int) != (l0_3.length : Int)) = false := bne_eq_false_iff_eq.mpr c93
           have c93b2 : (t127.length == l0_3.length) = true := by first | simpa using c93 | (simp at c93 ⊢; omega)
           clear c93; replace H := Option.bind_eq_some_iff.mp H; obtain ⟨⟨t136, t137⟩, A940, H⟩ := H
           replace H : ((span_Has.f t136 t137 x21_4).bind fun t138 => (some t138)) = some r := H
           have A94 := Aside0.mk A940
           clear A940; replace H := Option.bind_eq_some_iff.mp H; obtain ⟨t138, A950, H⟩ := H; replace H : (some t138) = some r := H
           have A95 := Aside0.mk A950
           clear A950; obtain rfl := Option.some.inj H
           have hcz96_0 : wr.cell? ⟨gb101, 0, none⟩ = some (.string a0_0) := (blk_cell BK101.out 0).trans rfl
           have hcz96_1 : wr.cell? ⟨gb101, 1, none⟩ = some (.slice A0_1 l0_1.length c0_1) := (blk_cell BK101.out 1).trans rfl
           have hcz96_2 : wr.cell? ⟨gb101, 2, none⟩ = some (.int .i64 a0_2) := (blk_cell BK101.out 2).trans rfl
           have hcz96_3 : wr.cell? ⟨gb101, 3, none⟩ = some (.slice A0_3 l0_3.length c0_3) := (blk_cell BK101.out 3).trans rfl
           have hcz96_4 : wr.cell? ⟨gb101, 4, none⟩ = some (.slice A0_4 l0_4.length c0_4) := (blk_cell BK101.out 4).trans rfl
           have hcz96_5 : wr.cell? ⟨gb101, 5, none⟩ = some (.slice A0_5 l0_5.length c0_5) := (blk_cell BK101.out 5).trans rfl
           have hcz96_6 : wr.cell? ⟨gb101, 6, none⟩ = some (.slice A0_6 l0_6.length c0_6) := (blk_cell BK101.out 6).trans rfl
           have hcz96_7 : wr.cell? ⟨gb101, 7, none⟩ = some (.slice A0_7 l0_7.length c0_7) := (blk_cell BK101.out 7).trans rfl
           have hcz96_8 : wr.cell? ⟨gb101, 8, none⟩ = some (.slice A0_8 l0_8.length c0_8) := (blk_cell BK101.out 8).trans rfl
           have hcz96_9 : wr.cell? ⟨gb101, 9, none⟩ = some (.slice A0_9 l0_9.length c0_9) := (blk_cell BK101.out 9).trans rfl
           have hcz96_10 : wr.cell? ⟨gb101, 10, none⟩ = some (.int .i64 a0_10) := (blk_cell BK101.out 10).trans rfl
           have hfz96_0 := blk_frozen BK101.out 0
           have hfz96_1 := blk_frozen BK101.out 1
           have hfz96_2 := blk_frozen BK101.out 2
           have hfz96_3 := blk_frozen BK101.out 3
           have hfz96_4 := blk_frozen BK101.out 4
           have hfz96_5 := blk_frozen BK101.out 5
           have hfz96_6 := blk_frozen BK101.out 6
           have hfz96_7 := blk_frozen BK101.out 7
           have hfz96_8 := blk_frozen BK101.out 8
           have hfz96_9 := blk_frozen BK101.out 9
           have hfz96_10 := blk_frozen BK101.out 10
           obtain ⟨Ao97, co97, eo97⟩ := Kd.R_slice HO_20.out
           subst eo97; go_wp2_with (first | ((with_reducible refine gate_dst (N := 25) rfl ?_); (try (refine gate_guard (by rfl) ?_; dsimp only)); first | (refine load_blk (N := 25) rfl rfl 41 (.tmp 5) rfl rfl (afk BK101) (by exact fun h => ld41 h rfl) ?_)) | ((with_reducible refine gate_dst (N := 117) rfl ?_); (try (refine gate_guard (by rfl) ?_; dsimp only)); first | (refine load_blk (N := 117) rfl rfl 41 (.tmp 5) rfl rfl (afk BK101) (by exact fun h => ld41 h rfl) ?_)) | ((with_reducible refine gate_dst (N := 139) rfl ?_); (try (refine gate_guard (by rfl) ?_; dsimp only)); first | (refine load_blk (N := 139) rfl rfl 41 (.tmp 5) rfl rfl (afk BK101) (by exact fun h => ld41 h rfl) ?_)) | ((with_reducible refine gate_dst (N := 160) rfl ?_); (try (refine gate_guard (by rfl) ?_; dsimp only)); first | (refine load_blk (N := 160) rfl rfl 41 (.tmp 5) rfl rfl (afk BK101) (by exact fun h => ld41 h rfl) ?_)) | (go_at_call 10; (with_reducible refine (rain_Sum.calls _ _ t127 t136 t137 _ ?side1 ?side2 A94.out).mono ?_); (case side1 => repeat (first | exact (Kd.R_reads' HO_20.out).2.2 | with_reducible first | refine Kd.C_alloc ?_ _ | refine Kd.C_drewN ?_ _ | refine Kd.C_drew ?_)); (case side2 => exact (Kd.R_reads' HO_20.out).2.1); rintro e w98 ⟨rfl, hb⟩; have n0_ := Aside0.mk (Kd.R_below (by (with_reducible repeat (first | apply Kd.R_alloc | apply Kd.R_drewN | apply Kd.R_drew)); exact HO_20.out) hb); have n1_ := Aside0.mk (blk_below (g := gb101) (o := .cells #[.string a0_0, .slice A0_1 l0_1.length c0_1, .int .i64 a0_2, .slice A0_3 l0_3.length c0_3, .slice A0_4 l0_4.length c0_4, .slice A0_5 l0_5.length c0_5, .slice A0_6 l0_6.length c0_6, .slice A0_7 l0_7.length c0_7, .slice A0_8 l0_8.length c0_8, .slice A0_9 l0_9.length c0_9, .int .i64 a0_10] 41 (0, 0)) abx hb); have n2_ := Aside0.mk (below_step ahx hb); clear HO_20; clear BK101; clear HB; have HO_20 := n0_; have BK101 := n1_; have HB := n2_; clear n0_ n1_ n2_; (try clear hb); (try clear hb2); (try clear hk); (try clear hi)) | (go_at_call 12; (with_reducible refine (span_Has.calls t136 t137 x21_4 t138 _ A95.out).mono ?_); rintro e w99 ⟨rfl, hb⟩; have n0_ := Aside0.mk (Kd.R_below (by (with_reducible repeat (first | apply Kd.R_alloc | apply Kd.R_drewN | apply Kd.R_drew)); exact HO_20.out) hb); have n1_ := Aside0.mk (blk_below (g := gb101) (o := .cells #[.string a0_0, .slice A0_1 l0_1.length c0_1, .int .i64 a0_2, .slice A0_3 l0_3.length c0_3, .slice A0_4 l0_4.length c0_4, .slice A0_5 l0_5.length c0_5, .slice A0_6 l0_6.length c0_6, .slice A0_7 l0_7.length c0_7, .slice A0_8 l0_8.length c0_8, .slice A0_9 l0_9.length c0_9, .int .i64 a0_10] 41 (0, 0)) abx hb); have n2_ := Aside0.mk (below_step ahx hb); clear HO_20; clear BK101; clear HB; have HO_20 := n0_; have BK101 := n1_; have HB := n2_; clear n0_ n1_ n2_; (try clear hb); (try clear hb2); (try clear hk); (try clear hi)))
           go_ret
           exact ⟨by first | rfl | (simp [errW_none, errW_some] <;> rfl) | (simp [*, errW_none, errW_some] <;> rfl), ahx⟩
          rw [if_pos c75] at H
          have c75b0 : decide (x22_4 < (l0_3.length : Int)) = true := decide_eq_true c75
          clear c75
          by_cases c76 : 0 ≤ x22_4
          rotate_left
          ·rw [if_neg c76] at H
           exact NF.go H hr.out (by repeat' first | exact NF.none | exact NF.ff | refine NF.ite ?_ ?_ | refine NF.bind (fun _ => ?_))
          rw [if_pos c76] at H
          have c76b0 : decide (0 ≤ x22_4) = true := decide_eq_true c76
          clear c76; obtain ⟨ji77, hji77⟩ : ∃ j_ : Int, (mx 0 a0_2) = j_ := ⟨_, rfl⟩
          replace H : (if 0 ≤ (ji77) then (if (ji77) ≤ (l1.length : Int) then ((bournelaw26_falls.f ((rd_T47 l0_3 x22_4).f0) ((rd_T47 l0_3 x22_4).f1) ((rd_T47 l0_3 x22_4).f2) ((rd_T47 l0_3 x22_4).f3) ((rd_T47 l0_3 x22_4).f4) ((rd_T47 l0_3 x22_4).f5) ((rd_T47 l0_3 x22_4).f6) ((rd_T47 l0_3 x22_4).f7) ((rd_T47 l0_3 x22_4).f8) ((rd_T47 l0_3 x22_4).f9) ((rd_T47 l0_3 x22_4).f10) ((rd_T47 l0_3 x22_4).f11) (l1.take ((ji77) : Int).toNat)).bind fun t132 => (if x22_4 ≥ (t127.length : Int) then (some false) else (if x22_4 < (t127.length : Int) then ((span_Has.f ((rd_T26 t127 x22_4).f0) ((rd_T26 t127 x22_4).f1) t132).bind fun t134 => (if t134 = true then ((exact_Add.f x21_4 t132).bind fun t135 => (bournelaw26_RainEncloses.l3 k4 l1 t102 t127 t135 (wrap64 (x22_4 + 1)) a0_0 l0_1 a0_2 l0_3 l0_4 l0_5 l0_6 l0_7 l0_8 l0_9 a0_10)) else (some false))) else (none)))) else (none)) else (none)) = some r := by first | (rw [hji77] at H; exact H) | (simp only [hji77] at H ⊢; exact H)
          have hji77_ : (if 0 < a0_2 then a0_2 else 0) = ji77 := hji77
          by_cases c78 : 0 ≤ (ji77)
          rotate_left
          ·rw [if_neg c78] at H
           exact NF.go H hr.out (by repeat' first | exact NF.none | exact NF.ff | refine NF.ite ?_ ?_ | refine NF.bind (fun _ => ?_))
          rw [if_pos c78] at H
          have c78b0 := eq_true c78
          have c78b1 : decide (0 ≤ (ji77)) = true := decide_eq_true c78
          clear c78
          by_cases c79 : (ji77) ≤ (l1.length : Int)
          rotate_left
          ·rw [if_neg c79] at H
           exact NF.go H hr.out (by repeat' first | exact NF.none | exact NF.ff | refine NF.ite ?_ ?_ | refine NF.bind (fun _ => ?_))
          rw [if_pos c79] at H
          have c79b0 := eq_true c79
          have c79b1 : decide ((ji77) ≤ (l1.length : Int)) = true := decide_eq_true c79
          clear c79; replace H := Option.bind_eq_some_iff.mp H; obtain ⟨t132, A800, H⟩ := H; replace H : (if x22_4 ≥ (t127.length : Int) then (some false) else (if x22_4 < (t127.length : Int) then ((span_Has.f ((rd_T26 t127 x22_4).f0) ((rd_T26 t127 x22_4).f1) t132).bind fun t134 => (if t134 = true then ((exact_Add.f x21_4 t132).bind fun t135 => (bournelaw26_RainEncloses.l3 k4 l1 t102 t127 t135 (wrap64 (x22_4 + 1)) a0_0 l0_1 a0_2 l0_3 l0_4 l0_5 l0_6 l0_7 l0_8 l0_9 a0_10)) else (some false))) else (none))) = some r := H
          have A80 := Aside0.mk A800
          clear A800
          by_cases c81 : x22_4 ≥ (t127.length : Int)
          ·rw [if_pos c81] at H
           have c81b0 : decide ((t127.length : Int) ≤ x22_4) = true := decide_eq_true c81
           clear c81; exact NF.go H hr.out (by repeat' first | exact NF.none | exact NF.ff | refine NF.ite ?_ ?_ | refine NF.bind (fun _ => ?_))
          rw [if_neg c81] at H
          have c81b0 : decide ((t127.length : Int) ≤ x22_4) = false := decide_eq_false c81
          clear c81
          by_cases c82 : x22_4 < (t127.length : Int)
          rotate_left
          ·rw [if_neg c82] at H
           exact NF.go H hr.out (by repeat' first | exact NF.none | exact NF.ff | refine NF.ite ?_ ?_ | refine NF.bind (fun _ => ?_))
          rw [if_pos c82] at H
          have c82b0 : decide (x22_4 < (t127.length : Int)) = true := decide_eq_true c82
          clear c82; replace H := Option.bind_eq_some_iff.mp H; obtain ⟨t134, A830, H⟩ := H; replace H : (if t134 = true then ((exact_Add.f x21_4 t132).bind fun t135 => (bournelaw26_RainEncloses.l3 k4 l1 t102 t127 t135 (wrap64 (x22_4 + 1)) a0_0 l0_1 a0_2 l0_3 l0_4 l0_5 l0_6 l0_7 l0_8 l0_9 a0_10)) else (some false)) = some r := H
          have A83 := Aside0.mk A830
          clear A830
          by_cases c84 : t134 = true
          rotate_left
          ·replace c84 := Bool.eq_false_iff.mpr c84
           subst c84; have H1 : (some false) = some r := by rw [if_neg (show ¬ (false = true) by decide)] at H; exact H
           clear H; have H := H1; clear H1; exact NF.go H hr.out (by repeat' first | exact NF.none | exact NF.ff | refine NF.ite ?_ ?_ | refine NF.bind (fun _ => ?_))
          subst c84; have H1 : ((exact_Add.f x21_4 t132).bind fun t135 => (bournelaw26_RainEncloses.l3 k4 l1 t102 t127 t135 (wrap64 (x22_4 + 1)) a0_0 l0_1 a0_2 l0_3 l0_4 l0_5 l0_6 l0_7 l0_8 l0_9 a0_10)) = some r := by rw [if_pos rfl] at H; exact H
          clear H; have H := H1; clear H1; replace H := Option.bind_eq_some_iff.mp H; obtain ⟨t135, A850, H⟩ := H; replace H : (bournelaw26_RainEncloses.l3 k4 l1 t102 t127 t135 (wrap64 (x22_4 + 1)) a0_0 l0_1 a0_2 l0_3 l0_4 l0_5 l0_6 l0_7 l0_8 l0_9 a0_10) = some r := H
          have A85 := Aside0.mk A850
          clear A850; have H' := Aside0.mk H; clear H; have hcz86_0 : wr.cell? ⟨gb101, 0, none⟩ = some (.string a0_0) := (blk_cell BK101.out 0).trans rfl
          have hcz86_1 : wr.cell? ⟨gb101, 1, none⟩ = some (.slice A0_1 l0_1.length c0_1) := (blk_cell BK101.out 1).trans rfl
          have hcz86_2 : wr.cell? ⟨gb101, 2, none⟩ = some (.int .i64 a0_2) := (blk_cell BK101.out 2).trans rfl
          have hcz86_3 : wr.cell? ⟨gb101, 3, none⟩ = some (.slice A0_3 l0_3.length c0_3) := (blk_cell BK101.out 3).trans rfl
          have hcz86_4 : wr.cell? ⟨gb101, 4, none⟩ = some (.slice A0_4 l0_4.length c0_4) := (blk_cell BK101.out 4).trans rfl
          have hcz86_5 : wr.cell? ⟨gb101, 5, none⟩ = some (.slice A0_5 l0_5.length c0_5) := (blk_cell BK101.out 5).trans rfl
          have hcz86_6 : wr.cell? ⟨gb101, 6, none⟩ = some (.slice A0_6 l0_6.length c0_6) := (blk_cell BK101.out 6).trans rfl
          have hcz86_7 : wr.cell? ⟨gb101, 7, none⟩ = some (.slice A0_7 l0_7.length c0_7) := (blk_cell BK101.out 7).trans rfl
          have hcz86_8 : wr.cell? ⟨gb101, 8, none⟩ = some (.slice A0_8 l0_8.length c0_8) := (blk_cell BK101.out 8).trans rfl
          have hcz86_9 : wr.cell? ⟨gb101, 9, none⟩ = some (.slice A0_9 l0_9.length c0_9) := (blk_cell BK101.out 9).trans rfl
          have hcz86_10 : wr.cell? ⟨gb101, 10, none⟩ = some (.int .i64 a0_10) := (blk_cell BK101.out 10).trans rfl
          have hfz86_0 := blk_frozen BK101.out 0
          have hfz86_1 := blk_frozen BK101.out 1
          have hfz86_2 := blk_frozen BK101.out 2
          have hfz86_3 := blk_frozen BK101.out 3
          have hfz86_4 := blk_frozen BK101.out 4
          have hfz86_5 := blk_frozen BK101.out 5
          have hfz86_6 := blk_frozen BK101.out 6
          have hfz86_7 := blk_frozen BK101.out 7
          have hfz86_8 := blk_frozen BK101.out 8
          have hfz86_9 := blk_frozen BK101.out 9
          have hfz86_10 := blk_frozen BK101.out 10
          try go_wp2
          have n0_ := Aside0.mk (Kd.R_drew HO_20.out); have n1_ := Aside0.mk (blk_drew BK101.out); have n2_ := Aside0.mk (below_drew1 HB.out); clear HO_20; clear BK101; clear HB; have HO_20 := n0_; have BK101 := n1_; have HB := n2_; clear n0_ n1_ n2_; have p130 : 0 ≤ (x22_4 : Int) := of_decide_eq_true (by first | (with_reducible assumption) | assumption)
          have q130 : x22_4 < (l0_3.length : Int) := of_decide_eq_true (by first | (with_reducible assumption) | assumption)
          obtain ⟨ad130, A130_4, c130_4, A130_5, c130_5, A130_11, c130_11, e130, hx130_0, hx130_1, hx130_2, hx130_3, hx130_4, hx130_5, hx130_6, hx130_7, hx130_8, hx130_9, hx130_10, hx130_11, hl130_4, hi130_4, hl130_5, hi130_5, hl130_11, hi130_11⟩ := at_T47 HR0_3.out x22_4 p130 q130
          have hw130_11 := hx130_11; have hw130_10 := hx130_10; have hw130_9 := hx130_9; have hw130_8 := hx130_8; have hw130_7 := hx130_7; have hw130_6 := hx130_6; have hw130_5 := hx130_5; have hw130_4 := hx130_4; have hw130_3 := hx130_3; have hw130_2 := hx130_2; have hw130_1 := hx130_1; have hw130_0 := hx130_0
          cases e130
          replace hx130_0 := (HB.out.cell (World.block_lt_of_cell? w _ hx130_0)).trans hx130_0
          replace hx130_1 := (HB.out.cell (World.block_lt_of_cell? w _ hx130_1)).trans hx130_1
          replace hx130_2 := (HB.out.cell (World.block_lt_of_cell? w _ hx130_2)).trans hx130_2
          replace hx130_3 := (HB.out.cell (World.block_lt_of_cell? w _ hx130_3)).trans hx130_3
          replace hx130_4 := (HB.out.cell (World.block_lt_of_cell? w _ hx130_4)).trans hx130_4
          replace hx130_5 := (HB.out.cell (World.block_lt_of_cell? w _ hx130_5)).trans hx130_5
          replace hx130_6 := (HB.out.cell (World.block_lt_of_cell? w _ hx130_6)).trans hx130_6
          replace hx130_7 := (HB.out.cell (World.block_lt_of_cell? w _ hx130_7)).trans hx130_7
          replace hx130_8 := (HB.out.cell (World.block_lt_of_cell? w _ hx130_8)).trans hx130_8
          replace hx130_9 := (HB.out.cell (World.block_lt_of_cell? w _ hx130_9)).trans hx130_9
          replace hx130_10 := (HB.out.cell (World.block_lt_of_cell? w _ hx130_10)).trans hx130_10
          replace hx130_11 := (HB.out.cell (World.block_lt_of_cell? w _ hx130_11)).trans hx130_11
          have HR130_4 := Aside0.mk hi130_4
          have HC130_4 := Aside0.mk hl130_4
          clear hi130_4 hl130_4; have HR130_5 := Aside0.mk hi130_5
          have HC130_5 := Aside0.mk hl130_5
          clear hi130_5 hl130_5; have HR130_11 := Aside0.mk hi130_11
          have HC130_11 := Aside0.mk hl130_11
          clear hi130_11 hl130_11; replace p130 := eq_true p130
          replace q130 := eq_true q130
          obtain ⟨i088, hi088, _, hsz88, _⟩ := info_parts info3
          obtain ⟨hcut88, hA88, hC88⟩ := print_take_of (P := Try.prog) (Value.int .i64) 0 39 3 .i64 Try.underlying39 hi088 hsz88 A1 c1 l1 (ji77) (of_decide_eq_true (by first | (with_reducible assumption) | assumption)) (of_decide_eq_true (by first | (with_reducible assumption) | assumption)) HC1.out
          have HR131 := Aside0.mk (Kd.C_of_reads (h1 := fun _ => rfl) (hA88 _ (Kd.reads_of_C HR1.out)))
          have HC131 := Aside0.mk hC88
          clear hA88 hC88 hi088 hsz88; refine start_ (n := 12) (S := fun w' => w'.cell? ⟨gb101, 0, none⟩ = some (.string a0_0) ∧ w'.cell? ⟨gb101, 1, none⟩ = some (.slice A0_1 l0_1.length c0_1) ∧ w'.cell? ⟨gb101, 2, none⟩ = some (.int .i64 a0_2) ∧ w'.cell? ⟨gb101, 3, none⟩ = some (.slice (some ad130) l0_3.length c0_3) ∧ w'.cell? ⟨gb101, 4, none⟩ = some (.slice A0_4 l0_4.length c0_4) ∧ w'.cell? ⟨gb101, 5, none⟩ = some (.slice A0_5 l0_5.length c0_5) ∧ w'.cell? ⟨gb101, 6, none⟩ = some (.slice A0_6 l0_6.length c0_6) ∧ w'.cell? ⟨gb101, 7, none⟩ = some (.slice A0_7 l0_7.length c0_7) ∧ w'.cell? ⟨gb101, 8, none⟩ = some (.slice A0_8 l0_8.length c0_8) ∧ w'.cell? ⟨gb101, 9, none⟩ = some (.slice A0_9 l0_9.length c0_9) ∧ w'.cell? ⟨gb101, 10, none⟩ = some (.int .i64 a0_10) ∧ w'.cell? (ad130.add ((x22_4).toNat * 12)) = some (.string ((rd_T47 l0_3 x22_4).f0)) ∧ w'.cell? ⟨(ad130.add ((x22_4).toNat * 12)).block, (ad130.add ((x22_4).toNat * 12)).off + 1, none⟩ = some (.int .i64 ((rd_T47 l0_3 x22_4).f1)) ∧ w'.cell? ⟨(ad130.add ((x22_4).toNat * 12)).block, (ad130.add ((x22_4).toNat * 12)).off + 2, none⟩ = some (.int .i64 ((rd_T47 l0_3 x22_4).f2)) ∧ w'.cell? ⟨(ad130.add ((x22_4).toNat * 12)).block, (ad130.add ((x22_4).toNat * 12)).off + 3, none⟩ = some (.int .i64 ((rd_T47 l0_3 x22_4).f3)) ∧ w'.cell? ⟨(ad130.add ((x22_4).toNat * 12)).block, (ad130.add ((x22_4).toNat * 12)).off + 4, none⟩ = some (.slice A130_4 ((rd_T47 l0_3 x22_4).f4).length c130_4) ∧ w'.cell? ⟨(ad130.add ((x22_4).toNat * 12)).block, (ad130.add ((x22_4).toNat * 12)).off + 5, none⟩ = some (.slice A130_5 ((rd_T47 l0_3 x22_4).f5).length c130_5) ∧ w'.cell? ⟨(ad130.add ((x22_4).toNat * 12)).block, (ad130.add ((x22_4).toNat * 12)).off + 6, none⟩ = some (.int .i64 ((rd_T47 l0_3 x22_4).f6)) ∧ w'.cell? ⟨(ad130.add ((x22_4).toNat * 12)).block, (ad130.add ((x22_4).toNat * 12)).off + 7, none⟩ = some (.int .i64 ((rd_T47 l0_3 x22_4).f7)) ∧ w'.cell? ⟨(ad130.add ((x22_4).toNat * 12)).block, (ad130.add ((x22_4).toNat * 12)).off + 8, none⟩ = some (.int .i64 ((rd_T47 l0_3 x22_4).f8)) ∧ w'.cell? ⟨(ad130.add ((x22_4).toNat * 12)).block, (ad130.add ((x22_4).toNat * 12)).off + 9, none⟩ = some (.int .i64 ((rd_T47 l0_3 x22_4).f9)) ∧ w'.cell? ⟨(ad130.add ((x22_4).toNat * 12)).block, (ad130.add ((x22_4).toNat * 12)).off + 10, none⟩ = some (.int .i64 ((rd_T47 l0_3 x22_4).f10)) ∧ w'.cell? ⟨(ad130.add ((x22_4).toNat * 12)).block, (ad130.add ((x22_4).toNat * 12)).off + 11, none⟩ = some (.slice A130_11 ((rd_T47 l0_3 x22_4).f11).length c130_11)) (ds := []) #[O,O,O,O,O,O,O,O,O,O,O,O] (by kernel_rfl) rfl rfl ⟨(blk_cell BK101.out 0).trans rfl, (blk_cell BK101.out 1).trans rfl, (blk_cell BK101.out 2).trans rfl, (blk_cell BK101.out 3).trans rfl, (blk_cell BK101.out 4).trans rfl, (blk_cell BK101.out 5).trans rfl, (blk_cell BK101.out 6).trans rfl, (blk_cell BK101.out 7).trans rfl, (blk_cell BK101.out 8).trans rfl, (blk_cell BK101.out 9).trans rfl, (blk_cell BK101.out 10).trans rfl, ((HB.out.cell (World.block_lt_of_cell? w _ hw130_0)).trans hw130_0), ((HB.out.cell (World.block_lt_of_cell? w _ hw130_1)).trans hw130_1), ((HB.out.cell (World.block_lt_of_cell? w _ hw130_2)).trans hw130_2), ((HB.out.cell (World.block_lt_of_cell? w _ hw130_3)).trans hw130_3), ((HB.out.cell (World.block_lt_of_cell? w _ hw130_4)).trans hw130_4), ((HB.out.cell (World.block_lt_of_cell? w _ hw130_5)).trans hw130_5), ((HB.out.cell (World.block_lt_of_cell? w _ hw130_6)).trans hw130_6), ((HB.out.cell (World.block_lt_of_cell? w _ hw130_7)).trans hw130_7), ((HB.out.cell (World.block_lt_of_cell? w _ hw130_8)).trans hw130_8), ((HB.out.cell (World.block_lt_of_cell? w _ hw130_9)).trans hw130_9), ((HB.out.cell (World.block_lt_of_cell? w _ hw130_10)).trans hw130_10), ((HB.out.cell (World.block_lt_of_cell? w _ hw130_11)).trans hw130_11)⟩ (fun hHeld => ?_); refine with_tabW bournelaw26_RainEncloses.tab34 bournelaw26_RainEncloses.bits34 (fun HT_ HW_ => ?_)
          generalize wr.drew = w87 at HO_20 BK101 HB HR130_11 HR130_4 HR130_5 HR131 hx130_0 hx130_1 hx130_10 hx130_11 hx130_2 hx130_3 hx130_4 hx130_5 hx130_6 hx130_7 hx130_8 hx130_9 hHeld ⊢
          as_aux_lemma =>
          refine pure_ (i := 0) (N := some 170) (v := ?_) (a' := ?_) #[Z,O,O,O,O,O,O,O,O,O,O,O] rfl rfl (any_of HT_.out (by kernel_rfl)) (fun _ _ _ h => h) (Or.inl ⟨by rfl, ?_⟩) ?_ ?_; rotate_left
          ·intro w'; go_simp; with_reducible rfl
          rotate_left
          ·simp only [Act.put, zA, zB, zC, i64_w, i32_w]; rfl
          as_aux_lemma =>
          refine pure_ (i := 2) (N := some 172) (v := ?_) (a' := ?_) #[Z,O,Z,O,O,O,O,O,O,O,O,O] rfl rfl (any_of HT_.out (by kernel_rfl)) (fun _ _ _ h => h) (Or.inl ⟨by rfl, ?_⟩) ?_ ?_; rotate_left
          ·intro w'; go_simp; with_reducible rfl
          rotate_left
          ·simp only [Act.put, zA, zB, zC, i64_w, i32_w]; rfl
          as_aux_lemma =>
          refine pure_ (i := 5) (N := some 175) (v := ?_) (a' := ?_) #[Z,O,Z,O,O,Z,O,O,O,O,O,O] rfl rfl (any_of HT_.out (by kernel_rfl)) (fun _ _ _ h => h) (Or.inl ⟨by rfl, ?_⟩) ?_ ?_; rotate_left
          ·intro w'; go_simp; with_reducible rfl
          rotate_left
          ·simp only [Act.put, zA, zB, zC, i64_w, i32_w]; rfl
          as_aux_lemma =>
          refine pure_ (i := 6) (N := some 176) (v := ?_) (a' := ?_) #[Z,O,Z,O,O,Z,Z,O,O,O,O,O] rfl rfl (any_of HT_.out (by kernel_rfl)) (fun _ _ _ h => h) (Or.inl ⟨by rfl, ?_⟩) ?_ ?_; rotate_left
          ·intro w'; go_simp; with_reducible rfl
          rotate_left
          ·simp only [Act.put, zA, zB, zC, i64_w, i32_w]; rfl
          as_aux_lemma =>
          refine take_ (i := 1) (N := some 171) (v := ?_) (a' := ?_) #[Z,Z,Z,O,O,Z,Z,O,O,O,O,O] rfl rfl (take_ofW HT_.out HW_.out (by kernel_rfl)) (fun _ _ _ h => h) (Or.inl ⟨by rfl, ?_⟩) hHeld ?_ ?_; rotate_left
          ·rintro w' ⟨s0, s1, s2, s3, s4, s5, s6, s7, s8, s9, s10, s11, s12, s13, s14, s15, s16, s17, s18, s19, s20, s21, s22⟩
           go_simp; with_reducible rfl
          rotate_left
          ·simp only [Act.put, zA, zB, zC, i64_w, i32_w]; rfl
          as_aux_lemma =>
          refine pure_ (i := 3) (N := some 173) (v := ?_) (a' := ?_) #[Z,Z,Z,Z,O,Z,Z,O,O,O,O,O] rfl rfl (any_of HT_.out (by kernel_rfl)) (fun _ _ _ h => h) (Or.inl ⟨by rfl, ?_⟩) ?_ ?_; rotate_left
          ·intro w'; go_simp; with_reducible rfl
          rotate_left
          ·simp only [Act.put, zA, zB, zC, i64_w, i32_w]; rfl
          as_aux_lemma =>
          refine take_ (i := 4) (N := some 174) (v := ?_) (a' := ?_) #[Z,Z,Z,Z,Z,Z,Z,O,O,O,O,O] rfl rfl (take_ofW HT_.out HW_.out (by kernel_rfl)) (fun _ _ _ h => h) (Or.inl ⟨by rfl, ?_⟩) hHeld ?_ ?_; rotate_left
          ·rintro w' ⟨s0, s1, s2, s3, s4, s5, s6, s7, s8, s9, s10, s11, s12, s13, s14, s15, s16, s17, s18, s19, s20, s21, s22⟩
           go_simp; with_reducible rfl
          rotate_left
          ·simp only [Act.put, zA, zB, zC, i64_w, i32_w]; rfl
          as_aux_lemma =>
          refine take_ (i := 7) (N := some 177) (v := ?_) (a' := ?_) #[Z,Z,Z,Z,Z,Z,Z,Z,O,O,O,O] rfl rfl (take_ofW HT_.out HW_.out (by kernel_rfl)) (fun _ _ _ h => h) (Or.inl ⟨by rfl, ?_⟩) hHeld ?_ ?_; rotate_left
          ·rintro w' ⟨s0, s1, s2, s3, s4, s5, s6, s7, s8, s9, s10, s11, s12, s13, s14, s15, s16, s17, s18, s19, s20, s21, s22⟩
           go_simp; with_reducible rfl
          rotate_left
          ·simp only [Act.put, zA, zB, zC, i64_w, i32_w]; rfl
          as_aux_lemma =>
          refine pure_ (i := 8) (N := some 178) (v := ?_) (a' := ?_) #[Z,Z,Z,Z,Z,Z,Z,Z,Z,O,O,O] rfl rfl (any_of HT_.out (by kernel_rfl)) (fun _ _ _ h => h) (Or.inl ⟨by rfl, ?_⟩) ?_ ?_; rotate_left
          ·intro w'; go_simp; with_reducible rfl
          rotate_left
          ·simp only [Act.put, zA, zB, zC, i64_w, i32_w]; rfl
          as_aux_lemma =>
          refine pure_ (i := 9) (N := some 179) (v := ?_) (a' := ?_) #[Z,Z,Z,Z,Z,Z,Z,Z,Z,Z,O,O] rfl rfl (any_of HT_.out (by kernel_rfl)) (fun _ _ _ h => h) (Or.inl ⟨by rfl, ?_⟩) ?_ ?_; rotate_left
          ·intro w'; go_simp; with_reducible rfl
          rotate_left
          ·simp only [Act.put, zA, zB, zC, i64_w, i32_w]; rfl
          as_aux_lemma =>
          refine one_ (i := 10) (N := some 180) #[Z,Z,Z,Z,Z,Z,Z,Z,Z,Z,Z,O] rfl rfl (one_of HT_.out (by kernel_rfl)) (by decide) (fun K hK => ?_)
          refine goes_ Try.func26 (by kernel_rfl) rfl #[.agg #[.string ((rd_T47 l0_3 x22_4).f0), .int .i64 ((rd_T47 l0_3 x22_4).f1), .int .i64 ((rd_T47 l0_3 x22_4).f2), .int .i64 ((rd_T47 l0_3 x22_4).f3), .slice A130_4 ((rd_T47 l0_3 x22_4).f4).length c130_4, .slice A130_5 ((rd_T47 l0_3 x22_4).f5).length c130_5, .int .i64 ((rd_T47 l0_3 x22_4).f6), .int .i64 ((rd_T47 l0_3 x22_4).f7), .int .i64 ((rd_T47 l0_3 x22_4).f8), .int .i64 ((rd_T47 l0_3 x22_4).f9), .int .i64 ((rd_T47 l0_3 x22_4).f10), .slice A130_11 ((rd_T47 l0_3 x22_4).f11).length c130_11], .slice A1 (l1.take ((ji77) : Int).toNat).length c1] (by rfl) rfl rfl (by (try simp only [List.map_toArray, List.map_cons, List.map_nil]); first | done | (rw [show (l1.take ((ji77) : Int).toNat).length = (ji77).toNat from (by rw [List.length_take]; have h_ : ((ji77) : Int) ≤ (l1.length : Int) := of_decide_eq_true (by first | (with_reducible assumption) | assumption); omega)] <;> rfl) | (simp only [hji77]; rfl) | rfl | (simp only [List.length_drop, List.length_take]; rfl)) ?_; with_reducible refine (bournelaw26_falls.calls ((rd_T47 l0_3 x22_4).f0) ((rd_T47 l0_3 x22_4).f1) ((rd_T47 l0_3 x22_4).f2) ((rd_T47 l0_3 x22_4).f3) _ _ ((rd_T47 l0_3 x22_4).f4) _ _ ((rd_T47 l0_3 x22_4).f5) ((rd_T47 l0_3 x22_4).f6) ((rd_T47 l0_3 x22_4).f7) ((rd_T47 l0_3 x22_4).f8) ((rd_T47 l0_3 x22_4).f9) ((rd_T47 l0_3 x22_4).f10) _ _ ((rd_T47 l0_3 x22_4).f11) _ _ (l1.take ((ji77) : Int).toNat) t132 _ ?side1 ?side2 ?side3 ?side4 ?side5 ?side6 ?side7 ?side8 A80.out).mono ?_
          (case side1 => repeat (first | exact (Kd.C_below HR130_4.out HB.out) | with_reducible first | refine Kd.C_alloc ?_ _ | refine Kd.C_drewN ?_ _ | refine Kd.C_drew ?_)); (case side2 => exact HC130_4.out); (case side3 => repeat (first | exact (Kd.C_below HR130_5.out HB.out) | with_reducible first | refine Kd.C_alloc ?_ _ | refine Kd.C_drewN ?_ _ | refine Kd.C_drew ?_)); (case side4 => exact HC130_5.out); (case side5 => repeat (first | exact (Kd.C_below HR130_11.out HB.out) | with_reducible first | refine Kd.C_alloc ?_ _ | refine Kd.C_drewN ?_ _ | refine Kd.C_drew ?_)); (case side6 => exact HC130_11.out); (case side7 => repeat (first | exact (Kd.C_below HR131.out HB.out) | with_reducible first | refine Kd.C_alloc ?_ _ | refine Kd.C_drewN ?_ _ | refine Kd.C_drew ?_)); (case side8 => exact HC131.out); rintro e w89 ⟨rfl, hb⟩
          refine ⟨_, rfl, ?_⟩
          have n0_ := Aside0.mk (Kd.R_below (by (with_reducible repeat (first | apply Kd.R_alloc | apply Kd.R_drewN | apply Kd.R_drew)); exact HO_20.out) hb); have n1_ := Aside0.mk (blk_below (g := gb101) (o := .cells #[.string a0_0, .slice A0_1 l0_1.length c0_1, .int .i64 a0_2, .slice (some ad130) l0_3.length c0_3, .slice A0_4 l0_4.length c0_4, .slice A0_5 l0_5.length c0_5, .slice A0_6 l0_6.length c0_6, .slice A0_7 l0_7.length c0_7, .slice A0_8 l0_8.length c0_8, .slice A0_9 l0_9.length c0_9, .int .i64 a0_10] 41 (0, 0)) abx hb); have n2_ := Aside0.mk (below_step ahx hb); clear HO_20; clear BK101; clear HB; have HO_20 := n0_; have BK101 := n1_; have HB := n2_; clear n0_ n1_ n2_; (try clear hb); (try clear hb2); (try clear hk); (try clear hi); refine hK.out _ _ ⟨(blk_cell BK101.out 0).trans rfl, (blk_cell BK101.out 1).trans rfl, (blk_cell BK101.out 2).trans rfl, (blk_cell BK101.out 3).trans rfl, (blk_cell BK101.out 4).trans rfl, (blk_cell BK101.out 5).trans rfl, (blk_cell BK101.out 6).trans rfl, (blk_cell BK101.out 7).trans rfl, (blk_cell BK101.out 8).trans rfl, (blk_cell BK101.out 9).trans rfl, (blk_cell BK101.out 10).trans rfl, ((HB.out.cell (World.block_lt_of_cell? w _ hw130_0)).trans hw130_0), ((HB.out.cell (World.block_lt_of_cell? w _ hw130_1)).trans hw130_1), ((HB.out.cell (World.block_lt_of_cell? w _ hw130_2)).trans hw130_2), ((HB.out.cell (World.block_lt_of_cell? w _ hw130_3)).trans hw130_3), ((HB.out.cell (World.block_lt_of_cell? w _ hw130_4)).trans hw130_4), ((HB.out.cell (World.block_lt_of_cell? w _ hw130_5)).trans hw130_5), ((HB.out.cell (World.block_lt_of_cell? w _ hw130_6)).trans hw130_6), ((HB.out.cell (World.block_lt_of_cell? w _ hw130_7)).trans hw130_7), ((HB.out.cell (World.block_lt_of_cell? w _ hw130_8)).trans hw130_8), ((HB.out.cell (World.block_lt_of_cell? w _ hw130_9)).trans hw130_9), ((HB.out.cell (World.block_lt_of_cell? w _ hw130_10)).trans hw130_10), ((HB.out.cell (World.block_lt_of_cell? w _ hw130_11)).trans hw130_11)⟩ (fun hHeld => ?_)
          clear hK K
          as_aux_lemma =>
          refine norm_ (a' := ?_) ?_ ?_; rotate_left
          ·show Act.put _ (some 180) _ = _; simp only [Act.put, zA, zB, zC, i64_w, i32_w]; rfl
          as_aux_lemma =>
          refine pure_ (i := 11) (N := some 23) (v := ?_) (a' := ?_) #[Z,Z,Z,Z,Z,Z,Z,Z,Z,Z,Z,Z] rfl rfl (any_of HT_.out (by kernel_rfl)) (fun _ _ _ h => h) (Or.inl ⟨by rfl, ?_⟩) ?_ ?_; rotate_left
          ·intro w'; go_simp; with_reducible rfl
          rotate_left
          ·simp only [Act.put, zA, zB, zC, i64_w, i32_w]; rfl
          refine done_ (done_of HT_.out (by kernel_rfl)) ?_
          obtain ⟨Ao90, co90, eo90⟩ := Kd.R_slice HO_20.out
          subst eo90; have p133 : 0 ≤ (x22_4 : Int) := of_decide_eq_true (by first | (with_reducible assumption) | assumption)
          have q133 : x22_4 < (t127.length : Int) := of_decide_eq_true (by first | (with_reducible assumption) | assumption)
          obtain ⟨ad133, e133, hx133_0, hx133_1⟩ := at_T26 (Kd.R_reads' HO_20.out).2.2 x22_4 p133 q133
          cases e133
          replace p133 := eq_true p133
          replace q133 := eq_true q133
          try go_wp2_with (first | ((with_reducible refine gate_dst (N := 25) rfl ?_); (try (refine gate_guard (by rfl) ?_; dsimp only)); first | (refine load_blk (N := 25) rfl rfl 41 (.tmp 5) rfl rfl (afk BK101) (by exact fun h => ld41 h rfl) ?_)) | ((with_reducible refine gate_dst (N := 117) rfl ?_); (try (refine gate_guard (by rfl) ?_; dsimp only)); first | (refine load_blk (N := 117) rfl rfl 41 (.tmp 5) rfl rfl (afk BK101) (by exact fun h => ld41 h rfl) ?_)) | ((with_reducible refine gate_dst (N := 139) rfl ?_); (try (refine gate_guard (by rfl) ?_; dsimp only)); first | (refine load_blk (N := 139) rfl rfl 41 (.tmp 5) rfl rfl (afk BK101) (by exact fun h => ld41 h rfl) ?_)) | ((with_reducible refine gate_dst (N := 160) rfl ?_); (try (refine gate_guard (by rfl) ?_; dsimp only)); first | (refine load_blk (N := 160) rfl rfl 41 (.tmp 5) rfl rfl (afk BK101) (by exact fun h => ld41 h rfl) ?_)) | (go_at_call 12; (with_reducible refine (span_Has.calls ((rd_T26 t127 x22_4).f0) ((rd_T26 t127 x22_4).f1) t132 true _ A83.out).mono ?_); rintro e w91 ⟨rfl, hb⟩; have n0_ := Aside0.mk (Kd.R_below (by (with_reducible repeat (first | apply Kd.R_alloc | apply Kd.R_drewN | apply Kd.R_drew)); exact HO_20.out) hb); have n1_ := Aside0.mk (blk_below (g := gb101) (o := .cells #[.string a0_0, .slice A0_1 l0_1.length c0_1, .int .i64 a0_2, .slice (some ad130) l0_3.length c0_3, .slice A0_4 l0_4.length c0_4, .slice A0_5 l0_5.length c0_5, .slice A0_6 l0_6.length c0_6, .slice A0_7 l0_7.length c0_7, .slice A0_8 l0_8.length c0_8, .slice A0_9 l0_9.length c0_9, .int .i64 a0_10] 41 (0, 0)) abx hb); have n2_ := Aside0.mk (below_step ahx hb); clear HO_20; clear BK101; clear HB; have HO_20 := n0_; have BK101 := n1_; have HB := n2_; clear n0_ n1_ n2_; (try clear hb); (try clear hb2); (try clear hk); (try clear hi)) | ((with_reducible refine gate_callee (f := 24) rfl ?_); refine goesL_ (some 196) rfl rfl Try.func24 (by kernel_rfl) rfl #[.int .i64 x21_4, .int .i64 t132] rfl (by first | done | rfl) ?_; (with_reducible refine (exact_Add.calls x21_4 t132 t135 _ A85.out).mono ?_); rintro e w' ⟨rfl, ⟨nd, rfl⟩⟩; refine ⟨_, rfl, ?_⟩) | (go_at_call 24; (with_reducible refine (exact_Add.calls x21_4 t132 t135 _ A85.out).mono ?_); rintro e w' ⟨rfl, ⟨nd, rfl⟩⟩))
          go_roundg k4
          case measure => have := HJ7.out; have := HK2.out; have := HK3.out; have := HK4.out; omega
          case rel => exact ⟨(t135), (wrap64 (x22_4 + 1)), (by first | rfl | (simp; done) | (simp [*]; done)), (by first | rfl | (simp; done) | (simp [*]; done)), H', ⟨by have := HJ7.out; have := HK2.out; have := HK3.out; have := HK4.out; omega⟩, ⟨by (with_reducible repeat (first | apply Kd.R_alloc | apply Kd.R_drewN | apply Kd.R_drew)); exact HO_20.out⟩, ⟨by (with_reducible repeat (first | refine blk_drewN ?_ _ | refine blk_drew ?_ | refine blk_alloc ?_ _)); exact BK101.out⟩, ⟨ahx⟩⟩
     rw [if_pos c21] at H
     have c21b0 : decide (x14_2 < (l1.length : Int)) = true := decide_eq_true c21
     clear c21; have HC22 := Aside0.mk H
     clear H; go_upto_region 9 with (fail)
     go_cut [68] (fun v68 wc => ∃ (kq : Nat) (x68_21 : Bool), v68 = .bool x68_21 ∧ Aside0 (bournelaw26_RainEncloses.j2 kq l1 l2 a3 l4 t102 x13_2 x14_2 x68_21 a0_0 l0_1 a0_2 l0_3 l0_4 l0_5 l0_6 l0_7 l0_8 l0_9 a0_10 = some r) ∧ Aside0 (kq ≤ k2) ∧ Aside0 (Kd.R (Kd.int .i64) 3 wc w.heap.size (fun _ => True) u13 x13_2) ∧ Aside0 (wc.heap[gb101]? = some (.cells #[.string a0_0, (.slice A0_1 l0_1.length c0_1), .int .i64 a0_2, (.slice A0_3 l0_3.length c0_3), (.slice A0_4 l0_4.length c0_4), (.slice A0_5 l0_5.length c0_5), (.slice A0_6 l0_6.length c0_6), (.slice A0_7 l0_7.length c0_7), (.slice A0_8 l0_8.length c0_8), (.slice A0_9 l0_9.length c0_9), .int .i64 a0_10] 41 (0, 0))) ∧ Aside0 (Below w.heap.size w wc))
     case first =>
      have H := HC22.out; clear HC22
      by_cases c23 : 0 ≤ x14_2
      ·rw [if_pos c23] at H
       have c23b0 : decide (0 ≤ x14_2) = true := decide_eq_true c23
       clear c23; (first | rw [c23b0] | (simp only [i64_w, i32_w]; rw [c23b0]) | skip)
       by_cases c24 : (rd l1 x14_2) < 0
       ·rw [if_pos c24] at H
        have c24b0 : decide ((rd l1 x14_2) < 0) = true := decide_eq_true c24
        clear c24; have H' := Aside0.mk H; clear H; have p104 : 0 ≤ (x14_2 : Int) := of_decide_eq_true (by first | (with_reducible assumption) | assumption)
        have q104 : x14_2 < (l1.length : Int) := of_decide_eq_true (by first | (with_reducible assumption) | assumption)
        obtain ⟨ad104, e104, hx104_0⟩ := Kd.at_int HR1.out x14_2 p104 q104
        cases e104
        replace hx104_0 := (HB.out.cell (World.block_lt_of_cell? w _ hx104_0)).trans hx104_0
        replace p104 := eq_true p104
        replace q104 := eq_true q104
        go_wp2
        go_meet
        case rel => exact ⟨_, (true), (by first | rfl | (simp; done) | (simp [*]; done)), H', ⟨by have := HJ7.out; have := HK2.out; first | omega | exact Nat.le_refl _⟩, ⟨by (with_reducible repeat (first | apply Kd.R_alloc | apply Kd.R_drewN | apply Kd.R_drew)); exact HO_13.out⟩, ⟨by (with_reducible repeat (first | refine blk_drewN ?_ _ | refine blk_drew ?_ | refine blk_alloc ?_ _)); exact BK101.out⟩, ⟨ahx⟩⟩
       rw [if_neg c24] at H
       have c24b0 : decide ((rd l1 x14_2) < 0) = false := decide_eq_false c24
       clear c24; have H' := Aside0.mk H; clear H; have p104 : 0 ≤ (x14_2 : Int) := of_decide_eq_true (by first | (with_reducible assumption) | assumption)
       have q104 : x14_2 < (l1.length : Int) := of_decide_eq_true (by first | (with_reducible assumption) | assumption)
       obtain ⟨ad104, e104, hx104_0⟩ := Kd.at_int HR1.out x14_2 p104 q104
       cases e104
       replace hx104_0 := (HB.out.cell (World.block_lt_of_cell? w _ hx104_0)).trans hx104_0
       replace p104 := eq_true p104
       replace q104 := eq_true q104
       have p105 : 0 ≤ (x14_2 : Int) := of_decide_eq_true (by first | (with_reducible assumption) | assumption)
       have q105 : x14_2 < (l1.length : Int) := of_decide_eq_true (by first | (with_reducible assumption) | assumption)
       obtain ⟨ad105, e105, hx105_0⟩ := Kd.at_int HR1.out x14_2 p105 q105
       obtain rfl : ad104 = ad105 := (by injection e105)
       replace hx105_0 := (HB.out.cell (World.block_lt_of_cell? w _ hx105_0)).trans hx105_0
       replace p105 := eq_true p105
       replace q105 := eq_true q105
       go_wp2
       go_meet
       case rel => exact ⟨_, (decide ((rd l1 x14_2) > 1099511627776)), (by first | rfl | (simp; done) | (simp [*]; done)), H', ⟨by have := HJ7.out; have := HK2.out; first | omega | exact Nat.le_refl _⟩, ⟨by (with_reducible repeat (first | apply Kd.R_alloc | apply Kd.R_drewN | apply Kd.R_drew)); exact HO_13.out⟩, ⟨by (with_reducible repeat (first | refine blk_drewN ?_ _ | refine blk_drew ?_ | refine blk_alloc ?_ _)); exact BK101.out⟩, ⟨ahx⟩⟩
      ·rw [if_neg c23] at H
       exact NF.go H hr.out (by repeat' first | exact NF.none | exact NF.ff | refine NF.ite ?_ ?_ | refine NF.bind (fun _ => ?_))
     case rest =>
      clear HC22; try clear c1
      try clear p1
      try clear q1
      try clear hx1
      try clear c2
      try clear p2
      try clear c4
      try clear c7
      try clear c8
      try clear p10
      try clear q10
      try clear hx10
      try clear c13
      try clear c14
      try clear c14b0
      try clear c14b1
      try clear c15
      try clear c15b0
      try clear c17
      try clear c17b0
      try clear c20
      try clear c21
      try clear c21b0
      try clear c23
      try clear c23b0
      try clear c24
      try clear c24b0
      try clear hcz11_0
      try clear hcz11_1
      try clear hcz11_10
      try clear hcz11_2
      try clear hcz11_3
      try clear hcz11_4
      try clear hcz11_5
      try clear hcz11_6
      try clear hcz11_7
      try clear hcz11_8
      try clear hcz11_9
      try clear hcz16_0
      try clear hcz16_1
      try clear hcz16_10
      try clear hcz16_2
      try clear hcz16_3
      try clear hcz16_4
      try clear hcz16_5
      try clear hcz16_6
      try clear hcz16_7
      try clear hcz16_8
      try clear hcz16_9
      try clear hcz18_0
      try clear hcz18_1
      try clear hcz18_10
      try clear hcz18_2
      try clear hcz18_3
      try clear hcz18_4
      try clear hcz18_5
      try clear hcz18_6
      try clear hcz18_7
      try clear hcz18_8
      try clear hcz18_9
      try clear hcz19_0
      try clear hcz19_1
      try clear hcz19_10
      try clear hcz19_2
      try clear hcz19_3
      try clear hcz19_4
      try clear hcz19_5
      try clear hcz19_6
      try clear hcz19_7
      try clear hcz19_8
      try clear hcz19_9
      try clear hfz11_0
      try clear hfz11_1
      try clear hfz11_10
      try clear hfz11_2
      try clear hfz11_3
      try clear hfz11_4
      try clear hfz11_5
      try clear hfz11_6
      try clear hfz11_7
      try clear hfz11_8
      try clear hfz11_9
      try clear hfz16_0
      try clear hfz16_1
      try clear hfz16_10
      try clear hfz16_2
      try clear hfz16_3
      try clear hfz16_4
      try clear hfz16_5
      try clear hfz16_6
      try clear hfz16_7
      try clear hfz16_8
      try clear hfz16_9
      try clear hfz18_0
      try clear hfz18_1
      try clear hfz18_10
      try clear hfz18_2
      try clear hfz18_3
      try clear hfz18_4
      try clear hfz18_5
      try clear hfz18_6
      try clear hfz18_7
      try clear hfz18_8
      try clear hfz18_9
      try clear hfz19_0
      try clear hfz19_1
      try clear hfz19_10
      try clear hfz19_2
      try clear hfz19_3
      try clear hfz19_4
      try clear hfz19_5
      try clear hfz19_6
      try clear hfz19_7
      try clear hfz19_8
      try clear hfz19_9
      try clear hx104_0
      try clear hx105_0
      try clear p104
      try clear p105
      try clear p2
      try clear q104
      try clear q105
      obtain ⟨kq, x68_21, rfl, HA, HJ21, HO_13, BK101, HB⟩ := hcut
      cases kq with
      | zero => exact absurd HA.out (by simp [bournelaw26_RainEncloses.j2])
      | succ kj21 =>
       have H := HA.out; clear HA; simp only [bournelaw26_RainEncloses.j2] at H
       by_cases c25 : x68_21 = true
       ·subst c25; have H1 : (some t102) = some r := by rw [if_pos rfl] at H; exact H
        clear H; have H := H1; clear H1; obtain rfl := Option.some.inj H
        go_wp2
        go_ret
        exact ⟨by first | rfl | (simp [errW_none, errW_some] <;> rfl) | (simp [*, errW_none, errW_some] <;> rfl), ahx⟩
       replace c25 := Bool.eq_false_iff.mpr c25
       subst c25; have H1 : (if 0 ≤ x14_2 then (if x14_2 < (l1.length : Int) then (if x14_2 < (l2.length : Int) then ((exact_Add.f (rd l1 x14_2) (rd l2 x14_2)).bind fun t108 => ((exact_Clamp.f t108 0 2199023255552).bind fun t109 => (bournelaw26_RainEncloses.j3 kj21 l1 l2 a3 l4 t102 x13_2 x14_2 t109 a0_0 l0_1 a0_2 l0_3 l0_4 l0_5 l0_6 l0_7 l0_8 l0_9 a0_10))) else (bournelaw26_RainEncloses.j3 kj21 l1 l2 a3 l4 t102 x13_2 x14_2 (rd l1 x14_2) a0_0 l0_1 a0_2 l0_3 l0_4 l0_5 l0_6 l0_7 l0_8 l0_9 a0_10)) else (none)) else (none)) = some r := by rw [if_neg (show ¬ (false = true) by decide)] at H; exact H
       clear H; have H := H1; clear H1
       by_cases c26 : 0 ≤ x14_2
       rotate_left
       ·rw [if_neg c26] at H
        exact NF.go H hr.out (by repeat' first | exact NF.none | exact NF.ff | refine NF.ite ?_ ?_ | refine NF.bind (fun _ => ?_))
       rw [if_pos c26] at H
       have c26b0 : decide (0 ≤ x14_2) = true := decide_eq_true c26
       clear c26
       by_cases c27 : x14_2 < (l1.length : Int)
       rotate_left
       ·rw [if_neg c27] at H
        exact NF.go H hr.out (by repeat' first | exact NF.none | exact NF.ff | refine NF.ite ?_ ?_ | refine NF.bind (fun _ => ?_))
       rw [if_pos c27] at H
       have c27b0 : decide (x14_2 < (l1.length : Int)) = true := decide_eq_true c27
       clear c27; have HC28 := Aside0.mk H
       clear H; have p106 : 0 ≤ (x14_2 : Int) := of_decide_eq_true (by first | (with_reducible assumption) | assumption)
       have q106 : x14_2 < (l1.length : Int) := of_decide_eq_true (by first | (with_reducible assumption) | assumption)
       obtain ⟨ad106, e106, hx106_0⟩ := Kd.at_int HR1.out x14_2 p106 q106
       cases e106
       replace hx106_0 := (HB.out.cell (World.block_lt_of_cell? w _ hx106_0)).trans hx106_0
       replace p106 := eq_true p106
       replace q106 := eq_true q106
       go_upto_if 77 with (fail)
       go_cut [15] (fun v15 wc => ∃ (kq : Nat) (x15_27 : Int), v15 = .int .i64 x15_27 ∧ Aside0 (bournelaw26_RainEncloses.j3 kq l1 l2 a3 l4 t102 x13_2 x14_2 x15_27 a0_0 l0_1 a0_2 l0_3 l0_4 l0_5 l0_6 l0_7 l0_8 l0_9 a0_10 = some r) ∧ Aside0 (kq ≤ kj21) ∧ Aside0 (Kd.R (Kd.int .i64) 3 wc w.heap.size (fun _ => True) u13 x13_2) ∧ Aside0 (wc.heap[gb101]? = some (.cells #[.string a0_0, (.slice A0_1 l0_1.length c0_1), .int .i64 a0_2, (.slice A0_3 l0_3.length c0_3), (.slice A0_4 l0_4.length c0_4), (.slice A0_5 l0_5.length c0_5), (.slice A0_6 l0_6.length c0_6), (.slice A0_7 l0_7.length c0_7), (.slice A0_8 l0_8.length c0_8), (.slice A0_9 l0_9.length c0_9), .int .i64 a0_10] 41 (0, 0))) ∧ Aside0 (Below w.heap.size w wc))
       case first =>
        have H := HC28.out; clear HC28
        by_cases c29 : x14_2 < (l2.length : Int)
        ·rw [if_pos c29] at H
         have c29b0 : decide (x14_2 < (l2.length : Int)) = true := decide_eq_true c29
         clear c29; (first | rw [c29b0] | (simp only [i64_w, i32_w]; rw [c29b0]) | skip); replace H := Option.bind_eq_some_iff.mp H; obtain ⟨t108, A300, H⟩ := H; replace H : ((exact_Clamp.f t108 0 2199023255552).bind fun t109 => (bournelaw26_RainEncloses.j3 kj21 l1 l2 a3 l4 t102 x13_2 x14_2 t109 a0_0 l0_1 a0_2 l0_3 l0_4 l0_5 l0_6 l0_7 l0_8 l0_9 a0_10)) = some r := H
         have A30 := Aside0.mk A300
         clear A300; replace H := Option.bind_eq_some_iff.mp H; obtain ⟨t109, A310, H⟩ := H; replace H : (bournelaw26_RainEncloses.j3 kj21 l1 l2 a3 l4 t102 x13_2 x14_2 t109 a0_0 l0_1 a0_2 l0_3 l0_4 l0_5 l0_6 l0_7 l0_8 l0_9 a0_10) = some r := H
         have A31 := Aside0.mk A310
         clear A310; have H' := Aside0.mk H; clear H; have p107 : 0 ≤ (x14_2 : Int) := of_decide_eq_true (by first | (with_reducible assumption) | assumption)
         have q107 : x14_2 < (l2.length : Int) := of_decide_eq_true (by first | (with_reducible assumption) | assumption)
         obtain ⟨ad107, e107, hx107_0⟩ := Kd.at_int HR2.out x14_2 p107 q107
         cases e107
         replace hx107_0 := (HB.out.cell (World.block_lt_of_cell? w _ hx107_0)).trans hx107_0
         replace p107 := eq_true p107
         replace q107 := eq_true q107
         go_wp2_with (first | ((with_reducible refine gate_dst (N := 25) rfl ?_); (try (refine gate_guard (by rfl) ?_; dsimp only)); first | (refine load_blk (N := 25) rfl rfl 41 (.tmp 5) rfl rfl (afk BK101) (by exact fun h => ld41 h rfl) ?_)) | ((with_reducible refine gate_dst (N := 117) rfl ?_); (try (refine gate_guard (by rfl) ?_; dsimp only)); first | (refine load_blk (N := 117) rfl rfl 41 (.tmp 5) rfl rfl (afk BK101) (by exact fun h => ld41 h rfl) ?_)) | ((with_reducible refine gate_dst (N := 139) rfl ?_); (try (refine gate_guard (by rfl) ?_; dsimp only)); first | (refine load_blk (N := 139) rfl rfl 41 (.tmp 5) rfl rfl (afk BK101) (by exact fun h => ld41 h rfl) ?_)) | ((with_reducible refine gate_dst (N := 160) rfl ?_); (try (refine gate_guard (by rfl) ?_; dsimp only)); first | (refine load_blk (N := 160) rfl rfl 41 (.tmp 5) rfl rfl (afk BK101) (by exact fun h => ld41 h rfl) ?_)) | ((with_reducible refine gate_callee (f := 24) rfl ?_); refine goesL_ (some 83) rfl rfl Try.func24 (by kernel_rfl) rfl #[.int .i64 (rd l1 x14_2), .int .i64 (rd l2 x14_2)] rfl (by first | done | rfl) ?_; (with_reducible refine (exact_Add.calls (rd l1 x14_2) (rd l2 x14_2) t108 _ A30.out).mono ?_); rintro e w' ⟨rfl, ⟨nd, rfl⟩⟩; refine ⟨_, rfl, ?_⟩) | (go_at_call 24; (with_reducible refine (exact_Add.calls (rd l1 x14_2) (rd l2 x14_2) t108 _ A30.out).mono ?_); rintro e w' ⟨rfl, ⟨nd, rfl⟩⟩) | ((with_reducible refine gate_callee (f := 23) rfl ?_); refine goesL_ (some 84) rfl rfl Try.func23 (by kernel_rfl) rfl #[.int .i64 t108, .int .i64 0, .int .i64 2199023255552] rfl (by first | done | rfl) ?_; (with_reducible refine (exact_Clamp.calls t108 0 2199023255552 t109 _ A31.out).mono ?_); rintro e w' ⟨rfl, ⟨nd, rfl⟩⟩; refine ⟨_, rfl, ?_⟩) | (go_at_call 23; (with_reducible refine (exact_Clamp.calls t108 0 2199023255552 t109 _ A31.out).mono ?_); rintro e w' ⟨rfl, ⟨nd, rfl⟩⟩))
         go_meet
         case rel => exact ⟨_, (t109), (by first | rfl | (simp; done) | (simp [*]; done)), H', ⟨by have := HJ7.out; have := HK2.out; have := HJ21.out; first | omega | exact Nat.le_refl _⟩, ⟨by (with_reducible repeat (first | apply Kd.R_alloc | apply Kd.R_drewN | apply Kd.R_drew)); exact HO_13.out⟩, ⟨by (with_reducible repeat (first | refine blk_drewN ?_ _ | refine blk_drew ?_ | refine blk_alloc ?_ _)); exact BK101.out⟩, ⟨ahx⟩⟩
        ·rw [if_neg c29] at H
         have c29b0 : decide (x14_2 < (l2.length : Int)) = false := decide_eq_false c29
         clear c29; (first | rw [c29b0] | (simp only [i64_w, i32_w]; rw [c29b0]) | skip); have H' := Aside0.mk H; clear H; go_wp2
         go_meet
         case rel => exact ⟨_, (rd l1 x14_2), (by first | rfl | (simp; done) | (simp [*]; done)), H', ⟨by have := HJ7.out; have := HK2.out; have := HJ21.out; first | omega | exact Nat.le_refl _⟩, ⟨by (with_reducible repeat (first | apply Kd.R_alloc | apply Kd.R_drewN | apply Kd.R_drew)); exact HO_13.out⟩, ⟨by (with_reducible repeat (first | refine blk_drewN ?_ _ | refine blk_drew ?_ | refine blk_alloc ?_ _)); exact BK101.out⟩, ⟨ahx⟩⟩
       case rest =>
        clear HC28; try clear c1
        try clear p1
        try clear q1
        try clear hx1
        try clear c2
        try clear p2
        try clear c4
        try clear c7
        try clear c8
        try clear p10
        try clear q10
        try clear hx10
        try clear c13
        try clear c14
        try clear c14b0
        try clear c14b1
        try clear c15
        try clear c15b0
        try clear c17
        try clear c17b0
        try clear c20
        try clear c21
        try clear c21b0
        try clear c23
        try clear c23b0
        try clear c24
        try clear c24b0
        try clear c25
        try clear c26
        try clear c26b0
        try clear c27
        try clear c27b0
        try clear c29
        try clear c29b0
        try clear hcz11_0
        try clear hcz11_1
        try clear hcz11_10
        try clear hcz11_2
        try clear hcz11_3
        try clear hcz11_4
        try clear hcz11_5
        try clear hcz11_6
        try clear hcz11_7
        try clear hcz11_8
        try clear hcz11_9
        try clear hcz16_0
        try clear hcz16_1
        try clear hcz16_10
        try clear hcz16_2
        try clear hcz16_3
        try clear hcz16_4
        try clear hcz16_5
        try clear hcz16_6
        try clear hcz16_7
        try clear hcz16_8
        try clear hcz16_9
        try clear hcz18_0
        try clear hcz18_1
        try clear hcz18_10
        try clear hcz18_2
        try clear hcz18_3
        try clear hcz18_4
        try clear hcz18_5
        try clear hcz18_6
        try clear hcz18_7
        try clear hcz18_8
        try clear hcz18_9
        try clear hcz19_0
        try clear hcz19_1
        try clear hcz19_10
        try clear hcz19_2
        try clear hcz19_3
        try clear hcz19_4
        try clear hcz19_5
        try clear hcz19_6
        try clear hcz19_7
        try clear hcz19_8
        try clear hcz19_9
        try clear hfz11_0
        try clear hfz11_1
        try clear hfz11_10
        try clear hfz11_2
        try clear hfz11_3
        try clear hfz11_4
        try clear hfz11_5
        try clear hfz11_6
        try clear hfz11_7
        try clear hfz11_8
        try clear hfz11_9
        try clear hfz16_0
        try clear hfz16_1
        try clear hfz16_10
        try clear hfz16_2
        try clear hfz16_3
        try clear hfz16_4
        try clear hfz16_5
        try clear hfz16_6
        try clear hfz16_7
        try clear hfz16_8
        try clear hfz16_9
        try clear hfz18_0
        try clear hfz18_1
        try clear hfz18_10
        try clear hfz18_2
        try clear hfz18_3
        try clear hfz18_4
        try clear hfz18_5
        try clear hfz18_6
        try clear hfz18_7
        try clear hfz18_8
        try clear hfz18_9
        try clear hfz19_0
        try clear hfz19_1
        try clear hfz19_10
        try clear hfz19_2
        try clear hfz19_3
        try clear hfz19_4
        try clear hfz19_5
        try clear hfz19_6
        try clear hfz19_7
        try clear hfz19_8
        try clear hfz19_9
        try clear hx104_0
        try clear hx105_0
        try clear hx106_0
        try clear hx107_0
        try clear p1
        try clear p10
        try clear p104
        try clear p105
        try clear p106
        try clear p107
        try clear p2
        try clear q1
        try clear q10
        try clear q104
        try clear q105
        try clear q106
        try clear q107
        obtain ⟨kq, x15_27, rfl, HA, HJ27, HO_13, BK101, HB⟩ := hcut
        cases kq with
        | zero => exact absurd HA.out (by simp [bournelaw26_RainEncloses.j3])
        | succ kj27 =>
         have H := HA.out; clear HA; simp only [bournelaw26_RainEncloses.j3] at H
         by_cases c32 : 0 ≤ x14_2
         rotate_left
         ·rw [if_neg c32] at H
          exact NF.go H hr.out (by repeat' first | exact NF.none | exact NF.ff | refine NF.ite ?_ ?_ | refine NF.bind (fun _ => ?_))
         rw [if_pos c32] at H
         have c32b0 : decide (0 ≤ x14_2) = true := decide_eq_true c32
         clear c32
         by_cases c33 : x14_2 < (l1.length : Int)
         rotate_left
         ·rw [if_neg c33] at H
          exact NF.go H hr.out (by repeat' first | exact NF.none | exact NF.ff | refine NF.ite ?_ ?_ | refine NF.bind (fun _ => ?_))
         rw [if_pos c33] at H
         have c33b0 : decide (x14_2 < (l1.length : Int)) = true := decide_eq_true c33
         clear c33; obtain ⟨ji34, hji34⟩ : ∃ j_ : Int, (mx (wrap64 (x15_27 - (rd l1 x14_2))) (wrap64 ((rd l1 x14_2) - x15_27))) = j_ := ⟨_, rfl⟩
         replace H : (if (wrap64 (1000 * (ji34))) > (wrap64 (a3 * x15_27)) then (bournelaw26_RainEncloses.j4 kj27 l1 l2 a3 l4 t102 x13_2 x14_2 (rd l1 x14_2) a0_0 l0_1 a0_2 l0_3 l0_4 l0_5 l0_6 l0_7 l0_8 l0_9 a0_10) else (bournelaw26_RainEncloses.j4 kj27 l1 l2 a3 l4 t102 x13_2 x14_2 x15_27 a0_0 l0_1 a0_2 l0_3 l0_4 l0_5 l0_6 l0_7 l0_8 l0_9 a0_10)) = some r := by first | (rw [hji34] at H; exact H) | (simp only [hji34] at H ⊢; exact H)
         have hji34_ : (if (wrap64 (x15_27 - (rd l1 x14_2))) < (wrap64 ((rd l1 x14_2) - x15_27)) then (wrap64 ((rd l1 x14_2) - x15_27)) else (wrap64 (x15_27 - (rd l1 x14_2)))) = ji34 := hji34
         have HC35 := Aside0.mk H
         clear H; try go_wp2
         have n0_ := Aside0.mk (Kd.R_drew HO_13.out); have n1_ := Aside0.mk (blk_drew BK101.out); have n2_ := Aside0.mk (below_drew1 HB.out); clear HO_13; clear BK101; clear HB; have HO_13 := n0_; have BK101 := n1_; have HB := n2_; clear n0_ n1_ n2_; have p110 : 0 ≤ (x14_2 : Int) := of_decide_eq_true (by first | (with_reducible assumption) | assumption)
         have q110 : x14_2 < (l1.length : Int) := of_decide_eq_true (by first | (with_reducible assumption) | assumption)
         obtain ⟨ad110, e110, hx110_0⟩ := Kd.at_int HR1.out x14_2 p110 q110
         have hw110_0 := hx110_0; obtain rfl : ad106 = ad110 := (by injection e110)
         replace hx110_0 := (HB.out.cell (World.block_lt_of_cell? w _ hx110_0)).trans hx110_0
         replace p110 := eq_true p110
         replace q110 := eq_true q110
         have p111 : 0 ≤ (x14_2 : Int) := of_decide_eq_true (by first | (with_reducible assumption) | assumption)
         have q111 : x14_2 < (l1.length : Int) := of_decide_eq_true (by first | (with_reducible assumption) | assumption)
         obtain ⟨ad111, e111, hx111_0⟩ := Kd.at_int HR1.out x14_2 p111 q111
         have hw111_0 := hx111_0; obtain rfl : ad106 = ad111 := (by injection e111)
         replace hx111_0 := (HB.out.cell (World.block_lt_of_cell? w _ hx111_0)).trans hx111_0
         replace p111 := eq_true p111
         replace q111 := eq_true q111
         refine start_ (n := 18) (S := fun w' => w'.cell? (ad106.add (x14_2).toNat) = some (.int .i64 (rd l1 x14_2)) ∧ w'.cell? (ad106.add (x14_2).toNat) = some (.int .i64 (rd l1 x14_2))) (ds := []) #[O,O,O,O,O,O,O,O,O,O,O,O,O,O,O,O,O,O] (by kernel_rfl) rfl rfl ⟨((HB.out.cell (World.block_lt_of_cell? w _ hw110_0)).trans hw110_0), ((HB.out.cell (World.block_lt_of_cell? w _ hw111_0)).trans hw111_0)⟩ (fun hHeld => ?_); refine with_tabW bournelaw26_RainEncloses.tab14 bournelaw26_RainEncloses.bits14 (fun HT_ HW_ => ?_)
         generalize wc.drew = w36 at HO_13 BK101 HB hx110_0 hx111_0 hHeld ⊢
         as_aux_lemma =>
         refine pure_ (i := 0) (N := some 85) (v := ?_) (a' := ?_) #[Z,O,O,O,O,O,O,O,O,O,O,O,O,O,O,O,O,O] rfl rfl (any_of HT_.out (by kernel_rfl)) (fun _ _ _ h => h) (Or.inl ⟨by rfl, ?_⟩) ?_ ?_; rotate_left
         ·intro w'; go_simp; with_reducible rfl
         rotate_left
         ·simp only [Act.put, zA, zB, zC, i64_w, i32_w]; rfl
         as_aux_lemma =>
         refine pure_ (i := 1) (N := some 86) (v := ?_) (a' := ?_) #[Z,Z,O,O,O,O,O,O,O,O,O,O,O,O,O,O,O,O] rfl rfl (any_of HT_.out (by kernel_rfl)) (fun _ _ _ h => h) (Or.inl ⟨by rfl, ?_⟩) ?_ ?_; rotate_left
         ·intro w'; go_simp; with_reducible rfl
         rotate_left
         ·simp only [Act.put, zA, zB, zC, i64_w, i32_w]; rfl
         as_aux_lemma =>
         refine pure_ (i := 2) (N := some 87) (v := ?_) (a' := ?_) #[Z,Z,Z,O,O,O,O,O,O,O,O,O,O,O,O,O,O,O] rfl rfl (any_of HT_.out (by kernel_rfl)) (fun _ _ _ h => h) (Or.inl ⟨by rfl, ?_⟩) ?_ ?_; rotate_left
         ·intro w'; go_simp; with_reducible rfl
         rotate_left
         ·simp only [Act.put, zA, zB, zC, i64_w, i32_w]; rfl
         as_aux_lemma =>
         refine pure_ (i := 3) (N := some 88) (v := ?_) (a' := ?_) #[Z,Z,Z,Z,O,O,O,O,O,O,O,O,O,O,O,O,O,O] rfl rfl (any_of HT_.out (by kernel_rfl)) (fun _ _ _ h => h) (Or.inl ⟨by rfl, ?_⟩) ?_ ?_; rotate_left
         ·intro w'; go_simp; with_reducible rfl
         rotate_left
         ·simp only [Act.put, zA, zB, zC, i64_w, i32_w]; rfl
         as_aux_lemma =>
         refine pure_ (i := 6) (N := some 91) (v := ?_) (a' := ?_) #[Z,Z,Z,Z,O,O,Z,O,O,O,O,O,O,O,O,O,O,O] rfl rfl (any_of HT_.out (by kernel_rfl)) (fun _ _ _ h => h) (Or.inl ⟨by rfl, ?_⟩) ?_ ?_; rotate_left
         ·intro w'; go_simp; with_reducible rfl
         rotate_left
         ·simp only [Act.put, zA, zB, zC, i64_w, i32_w]; rfl
         as_aux_lemma =>
         refine pure_ (i := 7) (N := some 92) (v := ?_) (a' := ?_) #[Z,Z,Z,Z,O,O,Z,Z,O,O,O,O,O,O,O,O,O,O] rfl rfl (any_of HT_.out (by kernel_rfl)) (fun _ _ _ h => h) (Or.inl ⟨by rfl, ?_⟩) ?_ ?_; rotate_left
         ·intro w'; go_simp; with_reducible rfl
         rotate_left
         ·simp only [Act.put, zA, zB, zC, i64_w, i32_w]; rfl
         as_aux_lemma =>
         refine pure_ (i := 8) (N := some 93) (v := ?_) (a' := ?_) #[Z,Z,Z,Z,O,O,Z,Z,Z,O,O,O,O,O,O,O,O,O] rfl rfl (any_of HT_.out (by kernel_rfl)) (fun _ _ _ h => h) (Or.inl ⟨by rfl, ?_⟩) ?_ ?_; rotate_left
         ·intro w'; go_simp; with_reducible rfl
         rotate_left
         ·simp only [Act.put, zA, zB, zC, i64_w, i32_w]; rfl
         as_aux_lemma =>
         refine pure_ (i := 10) (N := some 95) (v := ?_) (a' := ?_) #[Z,Z,Z,Z,O,O,Z,Z,Z,O,Z,O,O,O,O,O,O,O] rfl rfl (any_of HT_.out (by kernel_rfl)) (fun _ _ _ h => h) (Or.inl ⟨by rfl, ?_⟩) ?_ ?_; rotate_left
         ·intro w'; go_simp; with_reducible rfl
         rotate_left
         ·simp only [Act.put, zA, zB, zC, i64_w, i32_w]; rfl
         as_aux_lemma =>
         refine pure_ (i := 14) (N := some 99) (v := ?_) (a' := ?_) #[Z,Z,Z,Z,O,O,Z,Z,Z,O,Z,O,O,O,Z,O,O,O] rfl rfl (any_of HT_.out (by kernel_rfl)) (fun _ _ _ h => h) (Or.inl ⟨by rfl, ?_⟩) ?_ ?_; rotate_left
         ·intro w'; go_simp; with_reducible rfl
         rotate_left
         ·simp only [Act.put, zA, zB, zC, i64_w, i32_w]; rfl
         as_aux_lemma =>
         refine pure_ (i := 15) (N := some 100) (v := ?_) (a' := ?_) #[Z,Z,Z,Z,O,O,Z,Z,Z,O,Z,O,O,O,Z,Z,O,O] rfl rfl (any_of HT_.out (by kernel_rfl)) (fun _ _ _ h => h) (Or.inl ⟨by rfl, ?_⟩) ?_ ?_; rotate_left
         ·intro w'; go_simp; with_reducible rfl
         rotate_left
         ·simp only [Act.put, zA, zB, zC, i64_w, i32_w]; rfl
         as_aux_lemma =>
         refine pure_ (i := 16) (N := some 101) (v := ?_) (a' := ?_) #[Z,Z,Z,Z,O,O,Z,Z,Z,O,Z,O,O,O,Z,Z,Z,O] rfl rfl (any_of HT_.out (by kernel_rfl)) (fun _ _ _ h => h) (Or.inl ⟨by rfl, ?_⟩) ?_ ?_; rotate_left
         ·intro w'; go_simp; with_reducible rfl
         rotate_left
         ·simp only [Act.put, zA, zB, zC, i64_w, i32_w]; rfl
         as_aux_lemma =>
         refine take_ (i := 4) (N := some 89) (v := ?_) (a' := ?_) #[Z,Z,Z,Z,Z,O,Z,Z,Z,O,Z,O,O,O,Z,Z,Z,O] rfl rfl (take_ofW HT_.out HW_.out (by kernel_rfl)) (fun _ _ _ h => h) (Or.inl ⟨by rfl, ?_⟩) hHeld ?_ ?_; rotate_left
         ·rintro w' ⟨s0, s1⟩
          go_simp; with_reducible rfl
         rotate_left
         ·simp only [Act.put, zA, zB, zC, i64_w, i32_w]; rfl
         as_aux_lemma =>
         refine pure_ (i := 5) (N := some 90) (v := ?_) (a' := ?_) #[Z,Z,Z,Z,Z,Z,Z,Z,Z,O,Z,O,O,O,Z,Z,Z,O] rfl rfl (any_of HT_.out (by kernel_rfl)) (fun _ _ _ h => h) (Or.inl ⟨by rfl, ?_⟩) ?_ ?_; rotate_left
         ·intro w'; go_simp; with_reducible rfl
         rotate_left
         ·simp only [Act.put, zA, zB, zC, i64_w, i32_w]; rfl
         as_aux_lemma =>
         refine take_ (i := 9) (N := some 94) (v := ?_) (a' := ?_) #[Z,Z,Z,Z,Z,Z,Z,Z,Z,Z,Z,O,O,O,Z,Z,Z,O] rfl rfl (take_ofW HT_.out HW_.out (by kernel_rfl)) (fun _ _ _ h => h) (Or.inl ⟨by rfl, ?_⟩) hHeld ?_ ?_; rotate_left
         ·rintro w' ⟨s0, s1⟩
          go_simp; with_reducible rfl
         rotate_left
         ·simp only [Act.put, zA, zB, zC, i64_w, i32_w]; rfl
         as_aux_lemma =>
         refine pure_ (i := 11) (N := some 96) (v := ?_) (a' := ?_) #[Z,Z,Z,Z,Z,Z,Z,Z,Z,Z,Z,Z,O,O,Z,Z,Z,O] rfl rfl (any_of HT_.out (by kernel_rfl)) (fun _ _ _ h => h) (Or.inl ⟨by rfl, ?_⟩) ?_ ?_; rotate_left
         ·intro w'; go_simp; with_reducible rfl
         rotate_left
         ·simp only [Act.put, zA, zB, zC, i64_w, i32_w]; rfl
         as_aux_lemma =>
         refine pure_ (i := 12) (N := some 97) (v := ?_) (a' := ?_) #[Z,Z,Z,Z,Z,Z,Z,Z,Z,Z,Z,Z,Z,O,Z,Z,Z,O] rfl rfl (any_of HT_.out (by kernel_rfl)) (fun _ _ _ h => h) (Or.inl ⟨by rfl, ?_⟩) ?_ ?_; rotate_left
         ·intro w'; go_simp; with_reducible rfl
         rotate_left
         ·simp only [Act.put, zA, zB, zC, i64_w, i32_w]; rfl
         as_aux_lemma =>
         refine pure_ (i := 13) (N := some 98) (v := ?_) (a' := ?_) #[Z,Z,Z,Z,Z,Z,Z,Z,Z,Z,Z,Z,Z,Z,Z,Z,Z,O] rfl rfl (any_of HT_.out (by kernel_rfl)) (fun _ _ _ h => h) (Or.inl ⟨by rfl, ?_⟩) ?_ ?_; rotate_left
         ·intro w'; go_simp; with_reducible rfl
         rotate_left
         ·simp only [Act.put, zA, zB, zC, i64_w, i32_w]; rfl
         as_aux_lemma =>
         refine pure_ (i := 17) (N := some 102) (v := ?_) (a' := ?_) #[Z,Z,Z,Z,Z,Z,Z,Z,Z,Z,Z,Z,Z,Z,Z,Z,Z,Z] rfl rfl (any_of HT_.out (by kernel_rfl)) (fun _ _ _ h => h) (Or.inl ⟨by rfl, ?_⟩) ?_ ?_; rotate_left
         ·intro w'; go_simp; with_reducible rfl
         rotate_left
         ·simp only [Act.put, zA, zB, zC, i64_w, i32_w]; rfl
         refine done_ (done_of HT_.out (by kernel_rfl)) ?_
         go_upto_if 102 with (fail)
         go_cut [15] (fun v15 wc => ∃ (kq : Nat) (x15_34 : Int), v15 = .int .i64 x15_34 ∧ Aside0 (bournelaw26_RainEncloses.j4 kq l1 l2 a3 l4 t102 x13_2 x14_2 x15_34 a0_0 l0_1 a0_2 l0_3 l0_4 l0_5 l0_6 l0_7 l0_8 l0_9 a0_10 = some r) ∧ Aside0 (kq ≤ kj27) ∧ Aside0 (Kd.R (Kd.int .i64) 3 wc w.heap.size (fun _ => True) u13 x13_2) ∧ Aside0 (wc.heap[gb101]? = some (.cells #[.string a0_0, (.slice A0_1 l0_1.length c0_1), .int .i64 a0_2, (.slice A0_3 l0_3.length c0_3), (.slice A0_4 l0_4.length c0_4), (.slice A0_5 l0_5.length c0_5), (.slice A0_6 l0_6.length c0_6), (.slice A0_7 l0_7.length c0_7), (.slice A0_8 l0_8.length c0_8), (.slice A0_9 l0_9.length c0_9), .int .i64 a0_10] 41 (0, 0))) ∧ Aside0 (Below w.heap.size w wc))
         case first =>
          have H := HC35.out; clear HC35
          by_cases c37 : (wrap64 (1000 * (ji34))) > (wrap64 (a3 * x15_27))
          ·rw [if_pos c37] at H
           have c37b0 : decide ((wrap64 (a3 * x15_27)) < (wrap64 (1000 * (ji34)))) = true := decide_eq_true c37
           clear c37; (first | rw [c37b0] | (simp only [i64_w, i32_w]; rw [c37b0]) | skip); have H' := Aside0.mk H; clear H; have p112 : 0 ≤ (x14_2 : Int) := of_decide_eq_true (by first | (with_reducible assumption) | assumption)
           have q112 : x14_2 < (l1.length : Int) := of_decide_eq_true (by first | (with_reducible assumption) | assumption)
           obtain ⟨ad112, e112, hx112_0⟩ := Kd.at_int HR1.out x14_2 p112 q112
           obtain rfl : ad106 = ad112 := (by injection e112)
           replace hx112_0 := (HB.out.cell (World.block_lt_of_cell? w _ hx112_0)).trans hx112_0
           replace p112 := eq_true p112
           replace q112 := eq_true q112
           go_wp2
           go_meet
           case rel => exact ⟨_, (rd l1 x14_2), (by first | rfl | (simp; done) | (simp [*]; done)), H', ⟨by have := HJ7.out; have := HK2.out; have := HJ21.out; have := HJ27.out; first | omega | exact Nat.le_refl _⟩, ⟨by (with_reducible repeat (first | apply Kd.R_alloc | apply Kd.R_drewN | apply Kd.R_drew)); exact HO_13.out⟩, ⟨by (with_reducible repeat (first | refine blk_drewN ?_ _ | refine blk_drew ?_ | refine blk_alloc ?_ _)); exact BK101.out⟩, ⟨ahx⟩⟩
          ·rw [if_neg c37] at H
           have c37b0 : decide ((wrap64 (a3 * x15_27)) < (wrap64 (1000 * (ji34)))) = false := decide_eq_false c37
           clear c37; (first | rw [c37b0] | (simp only [i64_w, i32_w]; rw [c37b0]) | skip); have H' := Aside0.mk H; clear H; go_wp2
           go_meet
           case rel => exact ⟨_, (x15_27), (by first | rfl | (simp; done) | (simp [*]; done)), H', ⟨by have := HJ7.out; have := HK2.out; have := HJ21.out; have := HJ27.out; first | omega | exact Nat.le_refl _⟩, ⟨by (with_reducible repeat (first | apply Kd.R_alloc | apply Kd.R_drewN | apply Kd.R_drew)); exact HO_13.out⟩, ⟨by (with_reducible repeat (first | refine blk_drewN ?_ _ | refine blk_drew ?_ | refine blk_alloc ?_ _)); exact BK101.out⟩, ⟨ahx⟩⟩
         case rest =>
          clear HC35; try clear c1
          try clear p1
          try clear q1
          try clear hx1
          try clear c2
          try clear p2
          try clear c3
          try clear c4
          try clear p6
          try clear c7
          try clear c8
          try clear p10
          try clear q10
          try clear hx10
          try clear p11
          try clear q11
          try clear hx11
          try clear c13
          try clear c14
          try clear c14b0
          try clear c14b1
          try clear c15
          try clear c15b0
          try clear c17
          try clear c17b0
          try clear c20
          try clear c21
          try clear c21b0
          try clear c23
          try clear c23b0
          try clear c24
          try clear c24b0
          try clear c25
          try clear c26
          try clear c26b0
          try clear c27
          try clear c27b0
          try clear c29
          try clear c29b0
          try clear c32
          try clear c32b0
          try clear c33
          try clear c33b0
          try clear c37
          try clear c37b0
          try clear hcz11_0
          try clear hcz11_1
          try clear hcz11_10
          try clear hcz11_2
          try clear hcz11_3
          try clear hcz11_4
          try clear hcz11_5
          try clear hcz11_6
          try clear hcz11_7
          try clear hcz11_8
          try clear hcz11_9
          try clear hcz16_0
          try clear hcz16_1
          try clear hcz16_10
          try clear hcz16_2
          try clear hcz16_3
          try clear hcz16_4
          try clear hcz16_5
          try clear hcz16_6
          try clear hcz16_7
          try clear hcz16_8
          try clear hcz16_9
          try clear hcz18_0
          try clear hcz18_1
          try clear hcz18_10
          try clear hcz18_2
          try clear hcz18_3
          try clear hcz18_4
          try clear hcz18_5
          try clear hcz18_6
          try clear hcz18_7
          try clear hcz18_8
          try clear hcz18_9
          try clear hcz19_0
          try clear hcz19_1
          try clear hcz19_10
          try clear hcz19_2
          try clear hcz19_3
          try clear hcz19_4
          try clear hcz19_5
          try clear hcz19_6
          try clear hcz19_7
          try clear hcz19_8
          try clear hcz19_9
          try clear hfz11_0
          try clear hfz11_1
          try clear hfz11_10
          try clear hfz11_2
          try clear hfz11_3
          try clear hfz11_4
          try clear hfz11_5
          try clear hfz11_6
          try clear hfz11_7
          try clear hfz11_8
          try clear hfz11_9
          try clear hfz16_0
          try clear hfz16_1
          try clear hfz16_10
          try clear hfz16_2
          try clear hfz16_3
          try clear hfz16_4
          try clear hfz16_5
          try clear hfz16_6
          try clear hfz16_7
          try clear hfz16_8
          try clear hfz16_9
          try clear hfz18_0
          try clear hfz18_1
          try clear hfz18_10
          try clear hfz18_2
          try clear hfz18_3
          try clear hfz18_4
          try clear hfz18_5
          try clear hfz18_6
          try clear hfz18_7
          try clear hfz18_8
          try clear hfz18_9
          try clear hfz19_0
          try clear hfz19_1
          try clear hfz19_10
          try clear hfz19_2
          try clear hfz19_3
          try clear hfz19_4
          try clear hfz19_5
          try clear hfz19_6
          try clear hfz19_7
          try clear hfz19_8
          try clear hfz19_9
          try clear hx104_0
          try clear hx105_0
          try clear hx106_0
          try clear hx107_0
          try clear hx110_0
          try clear hx111_0
          try clear hx112_0
          try clear p1
          try clear p10
          try clear p104
          try clear p105
          try clear p106
          try clear p107
          try clear p110
          try clear p111
          try clear p112
          try clear p2
          try clear q1
          try clear q10
          try clear q104
          try clear q105
          try clear q106
          try clear q107
          try clear q110
          try clear q111
          try clear q112
          obtain ⟨kq, x15_34, rfl, HA, HJ34, HO_13, BK101, HB⟩ := hcut
          cases kq with
          | zero => exact absurd HA.out (by simp [bournelaw26_RainEncloses.j4])
          | succ kj34 =>
           have H := HA.out; clear HA; simp only [bournelaw26_RainEncloses.j4] at H
           by_cases c38 : x13_2.length < 17592186044416
           rotate_left
           ·rw [if_neg c38] at H
            exact NF.go H hr.out (by repeat' first | exact NF.none | exact NF.ff | refine NF.ite ?_ ?_ | refine NF.bind (fun _ => ?_))
           rw [if_pos c38] at H
           have LMc38 := Aside0.mk c38
           clear c38; obtain ⟨y113, hy113⟩ : ∃ y_ : List Int, y_ = (x13_2 ++ [x15_34]) := ⟨_, rfl⟩
           replace H : (bournelaw26_RainEncloses.l1 kj34 l1 l2 a3 l4 t102 y113 x14_2 0 a0_0 l0_1 a0_2 l0_3 l0_4 l0_5 l0_6 l0_7 l0_8 l0_9 a0_10) = some r := by first | (rw [hy113]; with_reducible exact H) | (have H2_ := (Option.bind_some _ _).symm.trans H; rw [hy113]; with_reducible exact H2_) | (have H2_ := (Option.bind_some _ _).symm.trans H; with_reducible exact H2_) | with_reducible exact H | (rw [hy113]; exact H) | exact H
           have Ny113 := Aside0.mk hy113
           clear hy113; have H' := Aside0.mk H; clear H; go_wp2_with (first | ((with_reducible refine gate_dst (N := 25) rfl ?_); (try (refine gate_guard (by rfl) ?_; dsimp only)); first | (refine load_blk (N := 25) rfl rfl 41 (.tmp 5) rfl rfl (afk BK101) (by exact fun h => ld41 h rfl) ?_)) | ((with_reducible refine gate_dst (N := 117) rfl ?_); (try (refine gate_guard (by rfl) ?_; dsimp only)); first | (refine load_blk (N := 117) rfl rfl 41 (.tmp 5) rfl rfl (afk BK101) (by exact fun h => ld41 h rfl) ?_)) | ((with_reducible refine gate_dst (N := 139) rfl ?_); (try (refine gate_guard (by rfl) ?_; dsimp only)); first | (refine load_blk (N := 139) rfl rfl 41 (.tmp 5) rfl rfl (afk BK101) (by exact fun h => ld41 h rfl) ?_)) | ((with_reducible refine gate_dst (N := 160) rfl ?_); (try (refine gate_guard (by rfl) ?_; dsimp only)); first | (refine load_blk (N := 160) rfl rfl 41 (.tmp 5) rfl rfl (afk BK101) (by exact fun h => ld41 h rfl) ?_)) | ((with_reducible refine gate_builtin (b := .append) (xs := #[.tmp 107, .tmp 109]) rfl ?_); (try (refine gate_guard (by rfl) ?_; dsimp only)); at_builtin; refine Kd.R_append (Kd.int .i64) (w0 := w) w.heap.size rfl (.tmp 107) (.tmp 109) 39 3 (.int .i64 0) 8 rfl Try.underlying39 info3 rfl (by decide) (by omega) u13 x13_2 x15_34 [.int .i64 x15_34] (fun _ => True) (fun _ => False) rfl rfl ?aP (fun _ hk => hk.elim) ?aF ?aO ?aB ?aS ?aL ?_; (case aP => exact rfl); (case aB => exact ahx); (case aF => exact (fun _ _ => trivial)); (case aO => exact (by (with_reducible repeat (first | apply Kd.R_alloc | apply Kd.R_drewN | apply Kd.R_drew)); exact HO_13.out)); (case aS => exact (below_size ahx)); (case aL => have := LMc38.out; omega); intro v114 w39 ho hb hg hat; rw [← Ny113.out] at ho; have n0_ := Aside0.mk (blk_grown (g := gb101) (o := .cells #[.string a0_0, .slice A0_1 l0_1.length c0_1, .int .i64 a0_2, .slice A0_3 l0_3.length c0_3, .slice A0_4 l0_4.length c0_4, .slice A0_5 l0_5.length c0_5, .slice A0_6 l0_6.length c0_6, .slice A0_7 l0_7.length c0_7, .slice A0_8 l0_8.length c0_8, .slice A0_9 l0_9.length c0_9, .int .i64 a0_10] 41 (0, 0)) abx hg (Kd.R_ne HO_13.out BK101.out (by decide))); have n1_ := Aside0.mk (hb); have n2_ := Aside0.mk (ho); clear BK101; clear HB; clear HO_13; have BK101 := n0_; have HB := n1_; have HO115 := n2_; clear n0_ n1_ n2_; clear ho hb hg hat))
           go_loopg [16] kj34 (fun kq v16 w' => ∃ (x16_6 : Int), v16 = .int .i64 x16_6 ∧ Aside0 (bournelaw26_RainEncloses.l1 kq l1 l2 a3 l4 t102 y113 x14_2 x16_6 a0_0 l0_1 a0_2 l0_3 l0_4 l0_5 l0_6 l0_7 l0_8 l0_9 a0_10 = some r) ∧ Aside0 (kq ≤ kj34) ∧ Aside0 (Kd.R (Kd.int .i64) 3 w' w.heap.size (fun _ => True) v114 y113) ∧ Aside0 (w'.heap[gb101]? = some (.cells #[.string a0_0, (.slice A0_1 l0_1.length c0_1), .int .i64 a0_2, (.slice A0_3 l0_3.length c0_3), (.slice A0_4 l0_4.length c0_4), (.slice A0_5 l0_5.length c0_5), (.slice A0_6 l0_6.length c0_6), (.slice A0_7 l0_7.length c0_7), (.slice A0_8 l0_8.length c0_8), (.slice A0_9 l0_9.length c0_9), .int .i64 a0_10] 41 (0, 0))) ∧ Aside0 (Below w.heap.size w w'))
           case atStart => exact ⟨(0), (by first | rfl | (simp; done) | (simp [*]; done)), H', ⟨Nat.le_refl _⟩, ⟨by (with_reducible repeat (first | apply Kd.R_alloc | apply Kd.R_drewN | apply Kd.R_drew)); exact HO115.out⟩, ⟨by (with_reducible repeat (first | refine blk_drewN ?_ _ | refine blk_drew ?_ | refine blk_alloc ?_ _)); exact BK101.out⟩, ⟨ahx⟩⟩
           case round =>
            clear H'; try clear c1
            try clear p1
            try clear q1
            try clear hx1
            try clear c2
            try clear p2
            try clear c3
            try clear c4
            try clear p6
            try clear c7
            try clear c8
            try clear p10
            try clear q10
            try clear hx10
            try clear p11
            try clear q11
            try clear hx11
            try clear c13
            try clear c14
            try clear c14b0
            try clear c14b1
            try clear c15
            try clear c15b0
            try clear c17
            try clear c17b0
            try clear c20
            try clear c21
            try clear c21b0
            try clear c23
            try clear c23b0
            try clear c24
            try clear c24b0
            try clear c25
            try clear c26
            try clear c26b0
            try clear c27
            try clear c27b0
            try clear c29
            try clear c29b0
            try clear c32
            try clear c32b0
            try clear c33
            try clear c33b0
            try clear c37
            try clear c37b0
            try clear c38
            try clear hcz11_0
            try clear hcz11_1
            try clear hcz11_10
            try clear hcz11_2
            try clear hcz11_3
            try clear hcz11_4
            try clear hcz11_5
            try clear hcz11_6
            try clear hcz11_7
            try clear hcz11_8
            try clear hcz11_9
            try clear hcz16_0
            try clear hcz16_1
            try clear hcz16_10
            try clear hcz16_2
            try clear hcz16_3
            try clear hcz16_4
            try clear hcz16_5
            try clear hcz16_6
            try clear hcz16_7
            try clear hcz16_8
            try clear hcz16_9
            try clear hcz18_0
            try clear hcz18_1
            try clear hcz18_10
            try clear hcz18_2
            try clear hcz18_3
            try clear hcz18_4
            try clear hcz18_5
            try clear hcz18_6
            try clear hcz18_7
            try clear hcz18_8
            try clear hcz18_9
            try clear hcz19_0
            try clear hcz19_1
            try clear hcz19_10
            try clear hcz19_2
            try clear hcz19_3
            try clear hcz19_4
            try clear hcz19_5
            try clear hcz19_6
            try clear hcz19_7
            try clear hcz19_8
            try clear hcz19_9
            try clear hfz11_0
            try clear hfz11_1
            try clear hfz11_10
            try clear hfz11_2
            try clear hfz11_3
            try clear hfz11_4
            try clear hfz11_5
            try clear hfz11_6
            try clear hfz11_7
            try clear hfz11_8
            try clear hfz11_9
            try clear hfz16_0
            try clear hfz16_1
            try clear hfz16_10
            try clear hfz16_2
            try clear hfz16_3
            try clear hfz16_4
            try clear hfz16_5
            try clear hfz16_6
            try clear hfz16_7
            try clear hfz16_8
            try clear hfz16_9
            try clear hfz18_0
            try clear hfz18_1
            try clear hfz18_10
            try clear hfz18_2
            try clear hfz18_3
            try clear hfz18_4
            try clear hfz18_5
            try clear hfz18_6
            try clear hfz18_7
            try clear hfz18_8
            try clear hfz18_9
            try clear hfz19_0
            try clear hfz19_1
            try clear hfz19_10
            try clear hfz19_2
            try clear hfz19_3
            try clear hfz19_4
            try clear hfz19_5
            try clear hfz19_6
            try clear hfz19_7
            try clear hfz19_8
            try clear hfz19_9
            try clear hx104_0
            try clear hx105_0
            try clear hx106_0
            try clear hx107_0
            try clear hx110_0
            try clear hx111_0
            try clear hx112_0
            try clear p1
            try clear p10
            try clear p104
            try clear p105
            try clear p106
            try clear p107
            try clear p11
            try clear p110
            try clear p111
            try clear p112
            try clear p2
            try clear p6
            try clear q1
            try clear q10
            try clear q104
            try clear q105
            try clear q106
            try clear q107
            try clear q11
            try clear q110
            try clear q111
            try clear q112
            obtain ⟨x16_6, rfl, HA, HK6, HO_13, BK101, HB⟩ := hrel
            cases gk with
            | zero => exact absurd HA.out (by simp [bournelaw26_RainEncloses.l1])
            | succ k6 =>
             have H := HA.out; clear HA; simp only [bournelaw26_RainEncloses.l1] at H
             by_cases c40 : x16_6 < (l4.length : Int)
             rotate_left
             ·rw [if_neg c40] at H
              have c40b0 : decide (x16_6 < (l4.length : Int)) = false := decide_eq_false c40
              clear c40; have H' := Aside0.mk H; clear H; go_wp2
              go_roundg k6
              case measure => have := HJ7.out; have := HK2.out; have := HJ21.out; have := HJ27.out; have := HJ34.out; have := HK6.out; omega
              case rel => exact ⟨(y113), (wrap64 (x14_2 + 1)), (by first | rfl | (simp; done) | (simp [*]; done)), H', ⟨by have := HJ7.out; have := HK2.out; have := HJ21.out; have := HJ27.out; have := HJ34.out; have := HK6.out; omega⟩, ⟨by (with_reducible repeat (first | apply Kd.R_alloc | apply Kd.R_drewN | apply Kd.R_drew)); exact HO_13.out⟩, ⟨by (with_reducible repeat (first | refine blk_drewN ?_ _ | refine blk_drew ?_ | refine blk_alloc ?_ _)); exact BK101.out⟩, ⟨ahx⟩⟩
             rw [if_pos c40] at H
             have c40b0 : decide (x16_6 < (l4.length : Int)) = true := decide_eq_true c40
             clear c40
             by_cases c41 : 0 ≤ x16_6
             rotate_left
             ·rw [if_neg c41] at H
              exact NF.go H hr.out (by repeat' first | exact NF.none | exact NF.ff | refine NF.ite ?_ ?_ | refine NF.bind (fun _ => ?_))
             rw [if_pos c41] at H
             have c41b0 : decide (0 ≤ x16_6) = true := decide_eq_true c41
             clear c41; replace H := Option.bind_eq_some_iff.mp H; obtain ⟨t117, A420, H⟩ := H; replace H : (if t117 = true then (if 0 ≤ x14_2 then (if x14_2 < (l1.length : Int) then ((span_Has.f ((rd_T63 l4 x16_6).f2.f0) ((rd_T63 l4 x16_6).f2.f1) (rd l1 x14_2)).bind fun t120 => (if t120 = true then (bournelaw26_RainEncloses.l1 k6 l1 l2 a3 l4 t102 y113 x14_2 (wrap64 (x16_6 + 1)) a0_0 l0_1 a0_2 l0_3 l0_4 l0_5 l0_6 l0_7 l0_8 l0_9 a0_10) else (some t102))) else (none)) else (none)) else (bournelaw26_RainEncloses.l1 k6 l1 l2 a3 l4 t102 y113 x14_2 (wrap64 (x16_6 + 1)) a0_0 l0_1 a0_2 l0_3 l0_4 l0_5 l0_6 l0_7 l0_8 l0_9 a0_10)) = some r := H
             have A42 := Aside0.mk A420
             clear A420
             by_cases c43 : t117 = true
             rotate_left
             ·replace c43 := Bool.eq_false_iff.mpr c43
              subst c43; have H1 : (bournelaw26_RainEncloses.l1 k6 l1 l2 a3 l4 t102 y113 x14_2 (wrap64 (x16_6 + 1)) a0_0 l0_1 a0_2 l0_3 l0_4 l0_5 l0_6 l0_7 l0_8 l0_9 a0_10) = some r := by rw [if_neg (show ¬ (false = true) by decide)] at H; exact H
              clear H; have H := H1; clear H1; have H' := Aside0.mk H; clear H; try go_wp2
              have n0_ := Aside0.mk (Kd.R_drew HO_13.out); have n1_ := Aside0.mk (blk_drew BK101.out); have n2_ := Aside0.mk (below_drew1 HB.out); clear HO_13; clear BK101; clear HB; have HO_13 := n0_; have BK101 := n1_; have HB := n2_; clear n0_ n1_ n2_; have p116 : 0 ≤ (x16_6 : Int) := of_decide_eq_true (by first | (with_reducible assumption) | assumption)
              have q116 : x16_6 < (l4.length : Int) := of_decide_eq_true (by first | (with_reducible assumption) | assumption)
              obtain ⟨ad116, e116, hx116_0, hx116_1, hx116_2, hx116_3⟩ := at_T63 HR4.out x16_6 p116 q116
              have hw116_3 := hx116_3; have hw116_2 := hx116_2; have hw116_1 := hx116_1; have hw116_0 := hx116_0
              cases e116
              replace hx116_0 := (HB.out.cell (World.block_lt_of_cell? w _ hx116_0)).trans hx116_0
              replace hx116_1 := (HB.out.cell (World.block_lt_of_cell? w _ hx116_1)).trans hx116_1
              replace hx116_2 := (HB.out.cell (World.block_lt_of_cell? w _ hx116_2)).trans hx116_2
              replace hx116_3 := (HB.out.cell (World.block_lt_of_cell? w _ hx116_3)).trans hx116_3
              replace p116 := eq_true p116
              replace q116 := eq_true q116
              refine start_ (n := 8) (S := fun w' => w'.cell? ⟨gb101, 0, none⟩ = some (.string a0_0) ∧ w'.cell? ⟨gb101, 1, none⟩ = some (.slice A0_1 l0_1.length c0_1) ∧ w'.cell? ⟨gb101, 2, none⟩ = some (.int .i64 a0_2) ∧ w'.cell? ⟨gb101, 3, none⟩ = some (.slice A0_3 l0_3.length c0_3) ∧ w'.cell? ⟨gb101, 4, none⟩ = some (.slice A0_4 l0_4.length c0_4) ∧ w'.cell? ⟨gb101, 5, none⟩ = some (.slice A0_5 l0_5.length c0_5) ∧ w'.cell? ⟨gb101, 6, none⟩ = some (.slice A0_6 l0_6.length c0_6) ∧ w'.cell? ⟨gb101, 7, none⟩ = some (.slice A0_7 l0_7.length c0_7) ∧ w'.cell? ⟨gb101, 8, none⟩ = some (.slice A0_8 l0_8.length c0_8) ∧ w'.cell? ⟨gb101, 9, none⟩ = some (.slice A0_9 l0_9.length c0_9) ∧ w'.cell? ⟨gb101, 10, none⟩ = some (.int .i64 a0_10) ∧ w'.cell? (ad116.add ((x16_6).toNat * 4)) = some (.int .i64 ((rd_T63 l4 x16_6).f0)) ∧ w'.cell? ⟨(ad116.add ((x16_6).toNat * 4)).block, (ad116.add ((x16_6).toNat * 4)).off + 1, none⟩ = some (.int .i64 ((rd_T63 l4 x16_6).f1)) ∧ w'.cell? ⟨(ad116.add ((x16_6).toNat * 4)).block, (ad116.add ((x16_6).toNat * 4)).off + 2, none⟩ = some (.int .i64 ((rd_T63 l4 x16_6).f2.f0)) ∧ w'.cell? ⟨(ad116.add ((x16_6).toNat * 4)).block, (ad116.add ((x16_6).toNat * 4)).off + 3, none⟩ = some (.int .i64 ((rd_T63 l4 x16_6).f2.f1))) (ds := []) #[O,O,O,O,O,O,O,O] (by kernel_rfl) rfl rfl ⟨(blk_cell BK101.out 0).trans rfl, (blk_cell BK101.out 1).trans rfl, (blk_cell BK101.out 2).trans rfl, (blk_cell BK101.out 3).trans rfl, (blk_cell BK101.out 4).trans rfl, (blk_cell BK101.out 5).trans rfl, (blk_cell BK101.out 6).trans rfl, (blk_cell BK101.out 7).trans rfl, (blk_cell BK101.out 8).trans rfl, (blk_cell BK101.out 9).trans rfl, (blk_cell BK101.out 10).trans rfl, ((HB.out.cell (World.block_lt_of_cell? w _ hw116_0)).trans hw116_0), ((HB.out.cell (World.block_lt_of_cell? w _ hw116_1)).trans hw116_1), ((HB.out.cell (World.block_lt_of_cell? w _ hw116_2)).trans hw116_2), ((HB.out.cell (World.block_lt_of_cell? w _ hw116_3)).trans hw116_3)⟩ (fun hHeld => ?_); refine with_tabW bournelaw26_RainEncloses.tab20 bournelaw26_RainEncloses.bits20 (fun HT_ HW_ => ?_)
              generalize wr.drew = w56 at HO_13 BK101 HB hx116_0 hx116_1 hx116_2 hx116_3 hHeld ⊢
              as_aux_lemma =>
              refine pure_ (i := 1) (N := some 118) (v := ?_) (a' := ?_) #[O,Z,O,O,O,O,O,O] rfl rfl (any_of HT_.out (by kernel_rfl)) (fun _ _ _ h => h) (Or.inl ⟨by rfl, ?_⟩) ?_ ?_; rotate_left
              ·intro w'; go_simp; with_reducible rfl
              rotate_left
              ·simp only [Act.put, zA, zB, zC, i64_w, i32_w]; rfl
              as_aux_lemma =>
              refine pure_ (i := 2) (N := some 119) (v := ?_) (a' := ?_) #[O,Z,Z,O,O,O,O,O] rfl rfl (any_of HT_.out (by kernel_rfl)) (fun _ _ _ h => h) (Or.inl ⟨by rfl, ?_⟩) ?_ ?_; rotate_left
              ·intro w'; go_simp; with_reducible rfl
              rotate_left
              ·simp only [Act.put, zA, zB, zC, i64_w, i32_w]; rfl
              as_aux_lemma =>
              refine pure_ (i := 3) (N := some 120) (v := ?_) (a' := ?_) #[O,Z,Z,Z,O,O,O,O] rfl rfl (any_of HT_.out (by kernel_rfl)) (fun _ _ _ h => h) (Or.inl ⟨by rfl, ?_⟩) ?_ ?_; rotate_left
              ·intro w'; go_simp; with_reducible rfl
              rotate_left
              ·simp only [Act.put, zA, zB, zC, i64_w, i32_w]; rfl
              as_aux_lemma =>
              refine pure_ (i := 5) (N := some 122) (v := ?_) (a' := ?_) #[O,Z,Z,Z,O,Z,O,O] rfl rfl (any_of HT_.out (by kernel_rfl)) (fun _ _ _ h => h) (Or.inl ⟨by rfl, ?_⟩) ?_ ?_; rotate_left
              ·intro w'; go_simp; with_reducible rfl
              rotate_left
              ·simp only [Act.put, zA, zB, zC, i64_w, i32_w]; rfl
              as_aux_lemma =>
              refine take_ (i := 0) (N := some 117) (v := ?_) (a' := ?_) #[Z,Z,Z,Z,O,Z,O,O] rfl rfl (take_ofW HT_.out HW_.out (by kernel_rfl)) (fun _ _ _ h => h) (Or.inl ⟨by rfl, ?_⟩) hHeld ?_ ?_; rotate_left
              ·rintro w' ⟨s0, s1, s2, s3, s4, s5, s6, s7, s8, s9, s10, s11, s12, s13, s14⟩
               first | (refine Eq.trans (exec_load (p := .pointer (some ⟨_, 0, none⟩)) rfl rfl (ld41c s0 s1 s2 s3 s4 s5 s6 s7 s8 s9 s10)) ?_; with_reducible rfl)
              rotate_left
              ·simp only [Act.put, zA, zB, zC, i64_w, i32_w]; rfl
              as_aux_lemma =>
              refine take_ (i := 4) (N := some 121) (v := ?_) (a' := ?_) #[Z,Z,Z,Z,Z,Z,O,O] rfl rfl (take_ofW HT_.out HW_.out (by kernel_rfl)) (fun _ _ _ h => h) (Or.inl ⟨by rfl, ?_⟩) hHeld ?_ ?_; rotate_left
              ·rintro w' ⟨s0, s1, s2, s3, s4, s5, s6, s7, s8, s9, s10, s11, s12, s13, s14⟩
               go_simp; with_reducible rfl
              rotate_left
              ·simp only [Act.put, zA, zB, zC, i64_w, i32_w]; rfl
              as_aux_lemma =>
              refine one_ (i := 6) (N := some 123) #[Z,Z,Z,Z,Z,Z,Z,O] rfl rfl (one_of HT_.out (by kernel_rfl)) (by decide) (fun K hK => ?_)
              refine goes_ Try.func25 (by kernel_rfl) rfl #[.agg #[.string a0_0, .slice A0_1 l0_1.length c0_1, .int .i64 a0_2, .slice A0_3 l0_3.length c0_3, .slice A0_4 l0_4.length c0_4, .slice A0_5 l0_5.length c0_5, .slice A0_6 l0_6.length c0_6, .slice A0_7 l0_7.length c0_7, .slice A0_8 l0_8.length c0_8, .slice A0_9 l0_9.length c0_9, .int .i64 a0_10], .agg #[.int .i64 ((rd_T63 l4 x16_6).f0), .int .i64 ((rd_T63 l4 x16_6).f1), .int .i64 ((rd_T63 l4 x16_6).f2.f0), .int .i64 ((rd_T63 l4 x16_6).f2.f1)], .int .i64 x14_2] (by rfl) rfl rfl (by (try simp only [List.map_toArray, List.map_cons, List.map_nil]); first | done | rfl | (simp only [List.length_drop, List.length_take]; rfl)) ?_; with_reducible refine (bourneref26_Of.calls a0_0 _ _ l0_1 a0_2 _ _ l0_3 _ _ l0_4 _ _ l0_5 _ _ l0_6 _ _ l0_7 _ _ l0_8 _ _ l0_9 a0_10 ((rd_T63 l4 x16_6).f0) ((rd_T63 l4 x16_6).f1) ((rd_T63 l4 x16_6).f2.f0) ((rd_T63 l4 x16_6).f2.f1) x14_2 false _ ?side1 ?side2 ?side3 ?side4 ?side5 ?side6 ?side7 ?side8 ?side9 ?side10 ?side11 ?side12 ?side13 ?side14 ?side15 ?side16 A42.out).mono ?_
              (case side1 => repeat (first | exact (Kd.C_below HR0_1.out HB.out) | with_reducible first | refine Kd.C_alloc ?_ _ | refine Kd.C_drewN ?_ _ | refine Kd.C_drew ?_)); (case side2 => exact HC0_1.out); (case side3 => repeat (first | exact (Kd.C_below HR0_3.out HB.out) | with_reducible first | refine Kd.C_alloc ?_ _ | refine Kd.C_drewN ?_ _ | refine Kd.C_drew ?_)); (case side4 => exact HC0_3.out); (case side5 => repeat (first | exact (Kd.C_below HR0_4.out HB.out) | with_reducible first | refine Kd.C_alloc ?_ _ | refine Kd.C_drewN ?_ _ | refine Kd.C_drew ?_)); (case side6 => exact HC0_4.out); (case side7 => repeat (first | exact (Kd.C_below HR0_5.out HB.out) | with_reducible first | refine Kd.C_alloc ?_ _ | refine Kd.C_drewN ?_ _ | refine Kd.C_drew ?_)); (case side8 => exact HC0_5.out); (case side9 => repeat (first | exact (Kd.C_below HR0_6.out HB.out) | with_reducible first | refine Kd.C_alloc ?_ _ | refine Kd.C_drewN ?_ _ | refine Kd.C_drew ?_)); (case side10 => exact HC0_6.out); (case side11 => repeat (first | exact (Kd.C_below HR0_7.out HB.out) | with_reducible first | refine Kd.C_alloc ?_ _ | refine Kd.C_drewN ?_ _ | refine Kd.C_drew ?_)); (case side12 => exact HC0_7.out); (case side13 => repeat (first | exact (Kd.C_below HR0_8.out HB.out) | with_reducible first | refine Kd.C_alloc ?_ _ | refine Kd.C_drewN ?_ _ | refine Kd.C_drew ?_)); (case side14 => exact HC0_8.out); (case side15 => repeat (first | exact (Kd.C_below HR0_9.out HB.out) | with_reducible first | refine Kd.C_alloc ?_ _ | refine Kd.C_drewN ?_ _ | refine Kd.C_drew ?_)); (case side16 => exact HC0_9.out); rintro e w57 ⟨rfl, hb⟩
              refine ⟨_, rfl, ?_⟩
              have n0_ := Aside0.mk (Kd.R_below (by (with_reducible repeat (first | apply Kd.R_alloc | apply Kd.R_drewN | apply Kd.R_drew)); exact HO_13.out) hb); have n1_ := Aside0.mk (blk_below (g := gb101) (o := .cells #[.string a0_0, .slice A0_1 l0_1.length c0_1, .int .i64 a0_2, .slice A0_3 l0_3.length c0_3, .slice A0_4 l0_4.length c0_4, .slice A0_5 l0_5.length c0_5, .slice A0_6 l0_6.length c0_6, .slice A0_7 l0_7.length c0_7, .slice A0_8 l0_8.length c0_8, .slice A0_9 l0_9.length c0_9, .int .i64 a0_10] 41 (0, 0)) abx hb); have n2_ := Aside0.mk (below_step ahx hb); clear HO_13; clear BK101; clear HB; have HO_13 := n0_; have BK101 := n1_; have HB := n2_; clear n0_ n1_ n2_; (try clear hb); (try clear hb2); (try clear hk); (try clear hi); refine hK.out _ _ ⟨(blk_cell BK101.out 0).trans rfl, (blk_cell BK101.out 1).trans rfl, (blk_cell BK101.out 2).trans rfl, (blk_cell BK101.out 3).trans rfl, (blk_cell BK101.out 4).trans rfl, (blk_cell BK101.out 5).trans rfl, (blk_cell BK101.out 6).trans rfl, (blk_cell BK101.out 7).trans rfl, (blk_cell BK101.out 8).trans rfl, (blk_cell BK101.out 9).trans rfl, (blk_cell BK101.out 10).trans rfl, ((HB.out.cell (World.block_lt_of_cell? w _ hw116_0)).trans hw116_0), ((HB.out.cell (World.block_lt_of_cell? w _ hw116_1)).trans hw116_1), ((HB.out.cell (World.block_lt_of_cell? w _ hw116_2)).trans hw116_2), ((HB.out.cell (World.block_lt_of_cell? w _ hw116_3)).trans hw116_3)⟩ (fun hHeld => ?_)
              clear hK K
              as_aux_lemma =>
              refine norm_ (a' := ?_) ?_ ?_; rotate_left
              ·show Act.put _ (some 123) _ = _; simp only [Act.put, zA, zB, zC, i64_w, i32_w]; rfl
              as_aux_lemma =>
              refine pure_ (i := 7) (N := some 17) (v := ?_) (a' := ?_) #[Z,Z,Z,Z,Z,Z,Z,Z] rfl rfl (any_of HT_.out (by kernel_rfl)) (fun _ _ _ h => h) (Or.inl ⟨by rfl, ?_⟩) ?_ ?_; rotate_left
              ·intro w'; go_simp; with_reducible rfl
              rotate_left
              ·simp only [Act.put, zA, zB, zC, i64_w, i32_w]; rfl
              refine done_ (done_of HT_.out (by kernel_rfl)) ?_
              try go_wp2
              have n0_ := Aside0.mk (Kd.R_drew HO_13.out); have n1_ := Aside0.mk (blk_drew BK101.out); have n2_ := Aside0.mk (below_drew1 HB.out); clear HO_13; clear BK101; clear HB; have HO_13 := n0_; have BK101 := n1_; have HB := n2_; clear n0_ n1_ n2_; refine start_ (n := 14) (S := fun w' => True) (ds := []) #[O,O,O,O,O,O,O,O,O,O,O,O,O,O] (by kernel_rfl) rfl rfl trivial (fun hHeld => ?_); refine with_tabW bournelaw26_RainEncloses.tab21 bournelaw26_RainEncloses.bits21 (fun HT_ HW_ => ?_)
              generalize w57.drew = w58 at HO_13 BK101 HB hHeld ⊢
              as_aux_lemma =>
              refine pure_ (i := 0) (N := some 124) (v := ?_) (a' := ?_) #[Z,O,O,O,O,O,O,O,O,O,O,O,O,O] rfl rfl (any_of HT_.out (by kernel_rfl)) (fun _ _ _ h => h) (Or.inl ⟨by rfl, ?_⟩) ?_ ?_; rotate_left
              ·intro w'; go_simp; with_reducible rfl
              rotate_left
              ·simp only [Act.put, zA, zB, zC, i64_w, i32_w]; rfl
              as_aux_lemma =>
              refine pure_ (i := 1) (N := some 125) (v := ?_) (a' := ?_) #[Z,Z,O,O,O,O,O,O,O,O,O,O,O,O] rfl rfl (any_of HT_.out (by kernel_rfl)) (fun _ _ _ h => h) (Or.inl ⟨by rfl, ?_⟩) ?_ ?_; rotate_left
              ·intro w'; go_simp; with_reducible rfl
              rotate_left
              ·simp only [Act.put, zA, zB, zC, i64_w, i32_w]; rfl
              as_aux_lemma =>
              refine pure_ (i := 2) (N := some 126) (v := undef) (a' := ?_) #[Z,Z,Z,O,O,O,O,O,O,O,O,O,O,O] rfl rfl (any_of HT_.out (by kernel_rfl)) (fun _ _ _ h => h) (Or.inr ⟨by rfl, rfl⟩) ?_ ?_; rotate_left
              ·simp only [Act.put, zA, zB, zC, i64_w, i32_w]; rfl
              as_aux_lemma =>
              refine pure_ (i := 3) (N := some 127) (v := undef) (a' := ?_) #[Z,Z,Z,Z,O,O,O,O,O,O,O,O,O,O] rfl rfl (any_of HT_.out (by kernel_rfl)) (fun _ _ _ h => h) (Or.inr ⟨by rfl, rfl⟩) ?_ ?_; rotate_left
              ·simp only [Act.put, zA, zB, zC, i64_w, i32_w]; rfl
              as_aux_lemma =>
              refine pure_ (i := 4) (N := some 128) (v := undef) (a' := ?_) #[Z,Z,Z,Z,Z,O,O,O,O,O,O,O,O,O] rfl rfl (any_of HT_.out (by kernel_rfl)) (fun _ _ _ h => h) (Or.inr ⟨by rfl, rfl⟩) ?_ ?_; rotate_left
              ·simp only [Act.put, zA, zB, zC, i64_w, i32_w]; rfl
              as_aux_lemma =>
              refine pure_ (i := 5) (N := some 129) (v := undef) (a' := ?_) #[Z,Z,Z,Z,Z,Z,O,O,O,O,O,O,O,O] rfl rfl (any_of HT_.out (by kernel_rfl)) (fun _ _ _ h => h) (Or.inr ⟨by rfl, rfl⟩) ?_ ?_; rotate_left
              ·simp only [Act.put, zA, zB, zC, i64_w, i32_w]; rfl
              as_aux_lemma =>
              refine pure_ (i := 6) (N := some 130) (v := undef) (a' := ?_) #[Z,Z,Z,Z,Z,Z,Z,O,O,O,O,O,O,O] rfl rfl (any_of HT_.out (by kernel_rfl)) (fun _ _ _ h => h) (Or.inr ⟨by rfl, rfl⟩) ?_ ?_; rotate_left
              ·simp only [Act.put, zA, zB, zC, i64_w, i32_w]; rfl
              as_aux_lemma =>
              refine pure_ (i := 7) (N := some 131) (v := undef) (a' := ?_) #[Z,Z,Z,Z,Z,Z,Z,Z,O,O,O,O,O,O] rfl rfl (any_of HT_.out (by kernel_rfl)) (fun _ _ _ h => h) (Or.inr ⟨by rfl, rfl⟩) ?_ ?_; rotate_left
              ·simp only [Act.put, zA, zB, zC, i64_w, i32_w]; rfl
              as_aux_lemma =>
              refine pure_ (i := 8) (N := some 132) (v := undef) (a' := ?_) #[Z,Z,Z,Z,Z,Z,Z,Z,Z,O,O,O,O,O] rfl rfl (any_of HT_.out (by kernel_rfl)) (fun _ _ _ h => h) (Or.inr ⟨by rfl, rfl⟩) ?_ ?_; rotate_left
              ·simp only [Act.put, zA, zB, zC, i64_w, i32_w]; rfl
              as_aux_lemma =>
              refine pure_ (i := 9) (N := some 133) (v := undef) (a' := ?_) #[Z,Z,Z,Z,Z,Z,Z,Z,Z,Z,O,O,O,O] rfl rfl (any_of HT_.out (by kernel_rfl)) (fun _ _ _ h => h) (Or.inr ⟨by rfl, rfl⟩) ?_ ?_; rotate_left
              ·simp only [Act.put, zA, zB, zC, i64_w, i32_w]; rfl
              as_aux_lemma =>
              refine pure_ (i := 10) (N := some 134) (v := undef) (a' := ?_) #[Z,Z,Z,Z,Z,Z,Z,Z,Z,Z,Z,O,O,O] rfl rfl (any_of HT_.out (by kernel_rfl)) (fun _ _ _ h => h) (Or.inr ⟨by rfl, rfl⟩) ?_ ?_; rotate_left
              ·simp only [Act.put, zA, zB, zC, i64_w, i32_w]; rfl
              as_aux_lemma =>
              refine pure_ (i := 11) (N := some 135) (v := undef) (a' := ?_) #[Z,Z,Z,Z,Z,Z,Z,Z,Z,Z,Z,Z,O,O] rfl rfl (any_of HT_.out (by kernel_rfl)) (fun _ _ _ h => h) (Or.inr ⟨by rfl, rfl⟩) ?_ ?_; rotate_left
              ·simp only [Act.put, zA, zB, zC, i64_w, i32_w]; rfl
              as_aux_lemma =>
              refine pure_ (i := 12) (N := some 136) (v := undef) (a' := ?_) #[Z,Z,Z,Z,Z,Z,Z,Z,Z,Z,Z,Z,Z,O] rfl rfl (any_of HT_.out (by kernel_rfl)) (fun _ _ _ h => h) (Or.inr ⟨by rfl, rfl⟩) ?_ ?_; rotate_left
              ·simp only [Act.put, zA, zB, zC, i64_w, i32_w]; rfl
              as_aux_lemma =>
              refine pure_ (i := 13) (N := some 137) (v := ?_) (a' := ?_) #[Z,Z,Z,Z,Z,Z,Z,Z,Z,Z,Z,Z,Z,Z] rfl rfl (any_of HT_.out (by kernel_rfl)) (fun _ _ _ h => h) (Or.inl ⟨by rfl, ?_⟩) ?_ ?_; rotate_left
              ·intro w'; go_simp; with_reducible rfl
              rotate_left
              ·simp only [Act.put, zA, zB, zC, i64_w, i32_w]; rfl
              refine done_ (done_of HT_.out (by kernel_rfl)) ?_
              try go_wp2
              go_roundg k6
              case measure => have := HJ7.out; have := HK2.out; have := HJ21.out; have := HJ27.out; have := HJ34.out; have := HK6.out; omega
              case rel => exact ⟨(wrap64 (x16_6 + 1)), (by first | rfl | (simp; done) | (simp [*]; done)), H', ⟨by have := HJ7.out; have := HK2.out; have := HJ21.out; have := HJ27.out; have := HJ34.out; have := HK6.out; omega⟩, ⟨by (with_reducible repeat (first | apply Kd.R_alloc | apply Kd.R_drewN | apply Kd.R_drew)); exact HO_13.out⟩, ⟨by (with_reducible repeat (first | refine blk_drewN ?_ _ | refine blk_drew ?_ | refine blk_alloc ?_ _)); exact BK101.out⟩, ⟨ahx⟩⟩
             subst c43; have H1 : (if 0 ≤ x14_2 then (if x14_2 < (l1.length : Int) then ((span_Has.f ((rd_T63 l4 x16_6).f2.f0) ((rd_T63 l4 x16_6).f2.f1) (rd l1 x14_2)).bind fun t120 => (if t120 = true then (bournelaw26_RainEncloses.l1 k6 l1 l2 a3 l4 t102 y113 x14_2 (wrap64 (x16_6 + 1)) a0_0 l0_1 a0_2 l0_3 l0_4 l0_5 l0_6 l0_7 l0_8 l0_9 a0_10) else (some t102))) else (none)) else (none)) = some r := by rw [if_pos rfl] at H; exact H
             clear H; have H := H1; clear H1
             by_cases c44 : 0 ≤ x14_2
             rotate_left
             ·rw [if_neg c44] at H
              exact NF.go H hr.out (by repeat' first | exact NF.none | exact NF.ff | refine NF.ite ?_ ?_ | refine NF.bind (fun _ => ?_))
             rw [if_pos c44] at H
             have c44b0 : decide (0 ≤ x14_2) = true := decide_eq_true c44
             clear c44
             by_cases c45 : x14_2 < (l1.length : Int)
             rotate_left
             ·rw [if_neg c45] at H
              exact NF.go H hr.out (by repeat' first | exact NF.none | exact NF.ff | refine NF.ite ?_ ?_ | refine NF.bind (fun _ => ?_))
             rw [if_pos c45] at H
             have c45b0 : decide (x14_2 < (l1.length : Int)) = true := decide_eq_true c45
             clear c45; replace H := Option.bind_eq_some_iff.mp H; obtain ⟨t120, A460, H⟩ := H; replace H : (if t120 = true then (bournelaw26_RainEncloses.l1 k6 l1 l2 a3 l4 t102 y113 x14_2 (wrap64 (x16_6 + 1)) a0_0 l0_1 a0_2 l0_3 l0_4 l0_5 l0_6 l0_7 l0_8 l0_9 a0_10) else (some t102)) = some r := H
             have A46 := Aside0.mk A460
             clear A460
             by_cases c47 : t120 = true
             rotate_left
             ·replace c47 := Bool.eq_false_iff.mpr c47
              subst c47; have H1 : (some t102) = some r := by rw [if_neg (show ¬ (false = true) by decide)] at H; exact H
              clear H; have H := H1; clear H1; obtain rfl := Option.some.inj H
              try go_wp2
              have n0_ := Aside0.mk (Kd.R_drew HO_13.out); have n1_ := Aside0.mk (blk_drew BK101.out); have n2_ := Aside0.mk (below_drew1 HB.out); clear HO_13; clear BK101; clear HB; have HO_13 := n0_; have BK101 := n1_; have HB := n2_; clear n0_ n1_ n2_; have p116 : 0 ≤ (x16_6 : Int) := of_decide_eq_true (by first | (with_reducible assumption) | assumption)
              have q116 : x16_6 < (l4.length : Int) := of_decide_eq_true (by first | (with_reducible assumption) | assumption)
              obtain ⟨ad116, e116, hx116_0, hx116_1, hx116_2, hx116_3⟩ := at_T63 HR4.out x16_6 p116 q116
              have hw116_3 := hx116_3; have hw116_2 := hx116_2; have hw116_1 := hx116_1; have hw116_0 := hx116_0
              cases e116
              replace hx116_0 := (HB.out.cell (World.block_lt_of_cell? w _ hx116_0)).trans hx116_0
              replace hx116_1 := (HB.out.cell (World.block_lt_of_cell? w _ hx116_1)).trans hx116_1
              replace hx116_2 := (HB.out.cell (World.block_lt_of_cell? w _ hx116_2)).trans hx116_2
              replace hx116_3 := (HB.out.cell (World.block_lt_of_cell? w _ hx116_3)).trans hx116_3
              replace p116 := eq_true p116
              replace q116 := eq_true q116
              refine start_ (n := 8) (S := fun w' => w'.cell? ⟨gb101, 0, none⟩ = some (.string a0_0) ∧ w'.cell? ⟨gb101, 1, none⟩ = some (.slice A0_1 l0_1.length c0_1) ∧ w'.cell? ⟨gb101, 2, none⟩ = some (.int .i64 a0_2) ∧ w'.cell? ⟨gb101, 3, none⟩ = some (.slice A0_3 l0_3.length c0_3) ∧ w'.cell? ⟨gb101, 4, none⟩ = some (.slice A0_4 l0_4.length c0_4) ∧ w'.cell? ⟨gb101, 5, none⟩ = some (.slice A0_5 l0_5.length c0_5) ∧ w'.cell? ⟨gb101, 6, none⟩ = some (.slice A0_6 l0_6.length c0_6) ∧ w'.cell? ⟨gb101, 7, none⟩ = some (.slice A0_7 l0_7.length c0_7) ∧ w'.cell? ⟨gb101, 8, none⟩ = some (.slice A0_8 l0_8.length c0_8) ∧ w'.cell? ⟨gb101, 9, none⟩ = some (.slice A0_9 l0_9.length c0_9) ∧ w'.cell? ⟨gb101, 10, none⟩ = some (.int .i64 a0_10) ∧ w'.cell? (ad116.add ((x16_6).toNat * 4)) = some (.int .i64 ((rd_T63 l4 x16_6).f0)) ∧ w'.cell? ⟨(ad116.add ((x16_6).toNat * 4)).block, (ad116.add ((x16_6).toNat * 4)).off + 1, none⟩ = some (.int .i64 ((rd_T63 l4 x16_6).f1)) ∧ w'.cell? ⟨(ad116.add ((x16_6).toNat * 4)).block, (ad116.add ((x16_6).toNat * 4)).off + 2, none⟩ = some (.int .i64 ((rd_T63 l4 x16_6).f2.f0)) ∧ w'.cell? ⟨(ad116.add ((x16_6).toNat * 4)).block, (ad116.add ((x16_6).toNat * 4)).off + 3, none⟩ = some (.int .i64 ((rd_T63 l4 x16_6).f2.f1))) (ds := []) #[O,O,O,O,O,O,O,O] (by kernel_rfl) rfl rfl ⟨(blk_cell BK101.out 0).trans rfl, (blk_cell BK101.out 1).trans rfl, (blk_cell BK101.out 2).trans rfl, (blk_cell BK101.out 3).trans rfl, (blk_cell BK101.out 4).trans rfl, (blk_cell BK101.out 5).trans rfl, (blk_cell BK101.out 6).trans rfl, (blk_cell BK101.out 7).trans rfl, (blk_cell BK101.out 8).trans rfl, (blk_cell BK101.out 9).trans rfl, (blk_cell BK101.out 10).trans rfl, ((HB.out.cell (World.block_lt_of_cell? w _ hw116_0)).trans hw116_0), ((HB.out.cell (World.block_lt_of_cell? w _ hw116_1)).trans hw116_1), ((HB.out.cell (World.block_lt_of_cell? w _ hw116_2)).trans hw116_2), ((HB.out.cell (World.block_lt_of_cell? w _ hw116_3)).trans hw116_3)⟩ (fun hHeld => ?_); refine with_tabW bournelaw26_RainEncloses.tab20 bournelaw26_RainEncloses.bits20 (fun HT_ HW_ => ?_)
              generalize wr.drew = w52 at HO_13 BK101 HB hx116_0 hx116_1 hx116_2 hx116_3 hHeld ⊢
              as_aux_lemma =>
              refine pure_ (i := 1) (N := some 118) (v := ?_) (a' := ?_) #[O,Z,O,O,O,O,O,O] rfl rfl (any_of HT_.out (by kernel_rfl)) (fun _ _ _ h => h) (Or.inl ⟨by rfl, ?_⟩) ?_ ?_; rotate_left
              ·intro w'; go_simp; with_reducible rfl
              rotate_left
              ·simp only [Act.put, zA, zB, zC, i64_w, i32_w]; rfl
              as_aux_lemma =>
              refine pure_ (i := 2) (N := some 119) (v := ?_) (a' := ?_) #[O,Z,Z,O,O,O,O,O] rfl rfl (any_of HT_.out (by kernel_rfl)) (fun _ _ _ h => h) (Or.inl ⟨by rfl, ?_⟩) ?_ ?_; rotate_left
              ·intro w'; go_simp; with_reducible rfl
              rotate_left
              ·simp only [Act.put, zA, zB, zC, i64_w, i32_w]; rfl
              as_aux_lemma =>
              refine pure_ (i := 3) (N := some 120) (v := ?_) (a' := ?_) #[O,Z,Z,Z,O,O,O,O] rfl rfl (any_of HT_.out (by kernel_rfl)) (fun _ _ _ h => h) (Or.inl ⟨by rfl, ?_⟩) ?_ ?_; rotate_left
              ·intro w'; go_simp; with_reducible rfl
              rotate_left
              ·simp only [Act.put, zA, zB, zC, i64_w, i32_w]; rfl
              as_aux_lemma =>
              refine pure_ (i := 5) (N := some 122) (v := ?_) (a' := ?_) #[O,Z,Z,Z,O,Z,O,O] rfl rfl (any_of HT_.out (by kernel_rfl)) (fun _ _ _ h => h) (Or.inl ⟨by rfl, ?_⟩) ?_ ?_; rotate_left
              ·intro w'; go_simp; with_reducible rfl
              rotate_left
              ·simp only [Act.put, zA, zB, zC, i64_w, i32_w]; rfl
              as_aux_lemma =>
              refine take_ (i := 0) (N := some 117) (v := ?_) (a' := ?_) #[Z,Z,Z,Z,O,Z,O,O] rfl rfl (take_ofW HT_.out HW_.out (by kernel_rfl)) (fun _ _ _ h => h) (Or.inl ⟨by rfl, ?_⟩) hHeld ?_ ?_; rotate_left
              ·rintro w' ⟨s0, s1, s2, s3, s4, s5, s6, s7, s8, s9, s10, s11, s12, s13, s14⟩
               first | (refine Eq.trans (exec_load (p := .pointer (some ⟨_, 0, none⟩)) rfl rfl (ld41c s0 s1 s2 s3 s4 s5 s6 s7 s8 s9 s10)) ?_; with_reducible rfl)
              rotate_left
              ·simp only [Act.put, zA, zB, zC, i64_w, i32_w]; rfl
              as_aux_lemma =>
              refine take_ (i := 4) (N := some 121) (v := ?_) (a' := ?_) #[Z,Z,Z,Z,Z,Z,O,O] rfl rfl (take_ofW HT_.out HW_.out (by kernel_rfl)) (fun _ _ _ h => h) (Or.inl ⟨by rfl, ?_⟩) hHeld ?_ ?_; rotate_left
              ·rintro w' ⟨s0, s1, s2, s3, s4, s5, s6, s7, s8, s9, s10, s11, s12, s13, s14⟩
               go_simp; with_reducible rfl
              rotate_left
              ·simp only [Act.put, zA, zB, zC, i64_w, i32_w]; rfl
              as_aux_lemma =>
              refine one_ (i := 6) (N := some 123) #[Z,Z,Z,Z,Z,Z,Z,O] rfl rfl (one_of HT_.out (by kernel_rfl)) (by decide) (fun K hK => ?_)
              refine goes_ Try.func25 (by kernel_rfl) rfl #[.agg #[.string a0_0, .slice A0_1 l0_1.length c0_1, .int .i64 a0_2, .slice A0_3 l0_3.length c0_3, .slice A0_4 l0_4.length c0_4, .slice A0_5 l0_5.length c0_5, .slice A0_6 l0_6.length c0_6, .slice A0_7 l0_7.length c0_7, .slice A0_8 l0_8.length c0_8, .slice A0_9 l0_9.length c0_9, .int .i64 a0_10], .agg #[.int .i64 ((rd_T63 l4 x16_6).f0), .int .i64 ((rd_T63 l4 x16_6).f1), .int .i64 ((rd_T63 l4 x16_6).f2.f0), .int .i64 ((rd_T63 l4 x16_6).f2.f1)], .int .i64 x14_2] (by rfl) rfl rfl (by (try simp only [List.map_toArray, List.map_cons, List.map_nil]); first | done | rfl | (simp only [List.length_drop, List.length_take]; rfl)) ?_; with_reducible refine (bourneref26_Of.calls a0_0 _ _ l0_1 a0_2 _ _ l0_3 _ _ l0_4 _ _ l0_5 _ _ l0_6 _ _ l0_7 _ _ l0_8 _ _ l0_9 a0_10 ((rd_T63 l4 x16_6).f0) ((rd_T63 l4 x16_6).f1) ((rd_T63 l4 x16_6).f2.f0) ((rd_T63 l4 x16_6).f2.f1) x14_2 true _ ?side1 ?side2 ?side3 ?side4 ?side5 ?side6 ?side7 ?side8 ?side9 ?side10 ?side11 ?side12 ?side13 ?side14 ?side15 ?side16 A42.out).mono ?_
              (case side1 => repeat (first | exact (Kd.C_below HR0_1.out HB.out) | with_reducible first | refine Kd.C_alloc ?_ _ | refine Kd.C_drewN ?_ _ | refine Kd.C_drew ?_)); (case side2 => exact HC0_1.out); (case side3 => repeat (first | exact (Kd.C_below HR0_3.out HB.out) | with_reducible first | refine Kd.C_alloc ?_ _ | refine Kd.C_drewN ?_ _ | refine Kd.C_drew ?_)); (case side4 => exact HC0_3.out); (case side5 => repeat (first | exact (Kd.C_below HR0_4.out HB.out) | with_reducible first | refine Kd.C_alloc ?_ _ | refine Kd.C_drewN ?_ _ | refine Kd.C_drew ?_)); (case side6 => exact HC0_4.out); (case side7 => repeat (first | exact (Kd.C_below HR0_5.out HB.out) | with_reducible first | refine Kd.C_alloc ?_ _ | refine Kd.C_drewN ?_ _ | refine Kd.C_drew ?_)); (case side8 => exact HC0_5.out); (case side9 => repeat (first | exact (Kd.C_below HR0_6.out HB.out) | with_reducible first | refine Kd.C_alloc ?_ _ | refine Kd.C_drewN ?_ _ | refine Kd.C_drew ?_)); (case side10 => exact HC0_6.out); (case side11 => repeat (first | exact (Kd.C_below HR0_7.out HB.out) | with_reducible first | refine Kd.C_alloc ?_ _ | refine Kd.C_drewN ?_ _ | refine Kd.C_drew ?_)); (case side12 => exact HC0_7.out); (case side13 => repeat (first | exact (Kd.C_below HR0_8.out HB.out) | with_reducible first | refine Kd.C_alloc ?_ _ | refine Kd.C_drewN ?_ _ | refine Kd.C_drew ?_)); (case side14 => exact HC0_8.out); (case side15 => repeat (first | exact (Kd.C_below HR0_9.out HB.out) | with_reducible first | refine Kd.C_alloc ?_ _ | refine Kd.C_drewN ?_ _ | refine Kd.C_drew ?_)); (case side16 => exact HC0_9.out); rintro e w53 ⟨rfl, hb⟩
              refine ⟨_, rfl, ?_⟩
              have n0_ := Aside0.mk (Kd.R_below (by (with_reducible repeat (first | apply Kd.R_alloc | apply Kd.R_drewN | apply Kd.R_drew)); exact HO_13.out) hb); have n1_ := Aside0.mk (blk_below (g := gb101) (o := .cells #[.string a0_0, .slice A0_1 l0_1.length c0_1, .int .i64 a0_2, .slice A0_3 l0_3.length c0_3, .slice A0_4 l0_4.length c0_4, .slice A0_5 l0_5.length c0_5, .slice A0_6 l0_6.length c0_6, .slice A0_7 l0_7.length c0_7, .slice A0_8 l0_8.length c0_8, .slice A0_9 l0_9.length c0_9, .int .i64 a0_10] 41 (0, 0)) abx hb); have n2_ := Aside0.mk (below_step ahx hb); clear HO_13; clear BK101; clear HB; have HO_13 := n0_; have BK101 := n1_; have HB := n2_; clear n0_ n1_ n2_; (try clear hb); (try clear hb2); (try clear hk); (try clear hi); refine hK.out _ _ ⟨(blk_cell BK101.out 0).trans rfl, (blk_cell BK101.out 1).trans rfl, (blk_cell BK101.out 2).trans rfl, (blk_cell BK101.out 3).trans rfl, (blk_cell BK101.out 4).trans rfl, (blk_cell BK101.out 5).trans rfl, (blk_cell BK101.out 6).trans rfl, (blk_cell BK101.out 7).trans rfl, (blk_cell BK101.out 8).trans rfl, (blk_cell BK101.out 9).trans rfl, (blk_cell BK101.out 10).trans rfl, ((HB.out.cell (World.block_lt_of_cell? w _ hw116_0)).trans hw116_0), ((HB.out.cell (World.block_lt_of_cell? w _ hw116_1)).trans hw116_1), ((HB.out.cell (World.block_lt_of_cell? w _ hw116_2)).trans hw116_2), ((HB.out.cell (World.block_lt_of_cell? w _ hw116_3)).trans hw116_3)⟩ (fun hHeld => ?_)
              clear hK K
              as_aux_lemma =>
              refine norm_ (a' := ?_) ?_ ?_; rotate_left
              ·show Act.put _ (some 123) _ = _; simp only [Act.put, zA, zB, zC, i64_w, i32_w]; rfl
              as_aux_lemma =>
              refine pure_ (i := 7) (N := some 17) (v := ?_) (a' := ?_) #[Z,Z,Z,Z,Z,Z,Z,Z] rfl rfl (any_of HT_.out (by kernel_rfl)) (fun _ _ _ h => h) (Or.inl ⟨by rfl, ?_⟩) ?_ ?_; rotate_left
              ·intro w'; go_simp; with_reducible rfl
              rotate_left
              ·simp only [Act.put, zA, zB, zC, i64_w, i32_w]; rfl
              refine done_ (done_of HT_.out (by kernel_rfl)) ?_
              try go_wp2
              have n0_ := Aside0.mk (Kd.R_drew HO_13.out); have n1_ := Aside0.mk (blk_drew BK101.out); have n2_ := Aside0.mk (below_drew1 HB.out); clear HO_13; clear BK101; clear HB; have HO_13 := n0_; have BK101 := n1_; have HB := n2_; clear n0_ n1_ n2_; have p118 : 0 ≤ (x16_6 : Int) := of_decide_eq_true (by first | (with_reducible assumption) | assumption)
              have q118 : x16_6 < (l4.length : Int) := of_decide_eq_true (by first | (with_reducible assumption) | assumption)
              obtain ⟨ad118, e118, hx118_0, hx118_1, hx118_2, hx118_3⟩ := at_T63 HR4.out x16_6 p118 q118
              have hw118_3 := hx118_3; have hw118_2 := hx118_2; have hw118_1 := hx118_1; have hw118_0 := hx118_0; obtain rfl : ad116 = ad118 := (by injection e118)
              replace hx118_0 := (HB.out.cell (World.block_lt_of_cell? w _ hx118_0)).trans hx118_0
              replace hx118_1 := (HB.out.cell (World.block_lt_of_cell? w _ hx118_1)).trans hx118_1
              replace hx118_2 := (HB.out.cell (World.block_lt_of_cell? w _ hx118_2)).trans hx118_2
              replace hx118_3 := (HB.out.cell (World.block_lt_of_cell? w _ hx118_3)).trans hx118_3
              replace p118 := eq_true p118
              replace q118 := eq_true q118
              have p119 : 0 ≤ (x14_2 : Int) := of_decide_eq_true (by first | (with_reducible assumption) | assumption)
              have q119 : x14_2 < (l1.length : Int) := of_decide_eq_true (by first | (with_reducible assumption) | assumption)
              obtain ⟨ad119, e119, hx119_0⟩ := Kd.at_int HR1.out x14_2 p119 q119
              have hw119_0 := hx119_0; obtain rfl : ad106 = ad119 := (by injection e119)
              replace hx119_0 := (HB.out.cell (World.block_lt_of_cell? w _ hx119_0)).trans hx119_0
              replace p119 := eq_true p119
              replace q119 := eq_true q119
              refine start_ (n := 14) (S := fun w' => w'.cell? (ad116.add ((x16_6).toNat * 4)) = some (.int .i64 ((rd_T63 l4 x16_6).f0)) ∧ w'.cell? ⟨(ad116.add ((x16_6).toNat * 4)).block, (ad116.add ((x16_6).toNat * 4)).off + 1, none⟩ = some (.int .i64 ((rd_T63 l4 x16_6).f1)) ∧ w'.cell? ⟨(ad116.add ((x16_6).toNat * 4)).block, (ad116.add ((x16_6).toNat * 4)).off + 2, none⟩ = some (.int .i64 ((rd_T63 l4 x16_6).f2.f0)) ∧ w'.cell? ⟨(ad116.add ((x16_6).toNat * 4)).block, (ad116.add ((x16_6).toNat * 4)).off + 3, none⟩ = some (.int .i64 ((rd_T63 l4 x16_6).f2.f1)) ∧ w'.cell? (ad106.add (x14_2).toNat) = some (.int .i64 (rd l1 x14_2))) (ds := []) #[O,O,O,O,O,O,O,O,O,O,O,O,O,O] (by kernel_rfl) rfl rfl ⟨((HB.out.cell (World.block_lt_of_cell? w _ hw118_0)).trans hw118_0), ((HB.out.cell (World.block_lt_of_cell? w _ hw118_1)).trans hw118_1), ((HB.out.cell (World.block_lt_of_cell? w _ hw118_2)).trans hw118_2), ((HB.out.cell (World.block_lt_of_cell? w _ hw118_3)).trans hw118_3), ((HB.out.cell (World.block_lt_of_cell? w _ hw119_0)).trans hw119_0)⟩ (fun hHeld => ?_); refine with_tabW bournelaw26_RainEncloses.tab21 bournelaw26_RainEncloses.bits21 (fun HT_ HW_ => ?_)
              generalize w53.drew = w54 at HO_13 BK101 HB hx118_0 hx118_1 hx118_2 hx118_3 hx119_0 hHeld ⊢
              as_aux_lemma =>
              refine pure_ (i := 0) (N := some 124) (v := ?_) (a' := ?_) #[Z,O,O,O,O,O,O,O,O,O,O,O,O,O] rfl rfl (any_of HT_.out (by kernel_rfl)) (fun _ _ _ h => h) (Or.inl ⟨by rfl, ?_⟩) ?_ ?_; rotate_left
              ·intro w'; go_simp; with_reducible rfl
              rotate_left
              ·simp only [Act.put, zA, zB, zC, i64_w, i32_w]; rfl
              as_aux_lemma =>
              refine pure_ (i := 1) (N := some 125) (v := ?_) (a' := ?_) #[Z,Z,O,O,O,O,O,O,O,O,O,O,O,O] rfl rfl (any_of HT_.out (by kernel_rfl)) (fun _ _ _ h => h) (Or.inl ⟨by rfl, ?_⟩) ?_ ?_; rotate_left
              ·intro w'; go_simp; with_reducible rfl
              rotate_left
              ·simp only [Act.put, zA, zB, zC, i64_w, i32_w]; rfl
              as_aux_lemma =>
              refine pure_ (i := 2) (N := some 126) (v := ?_) (a' := ?_) #[Z,Z,Z,O,O,O,O,O,O,O,O,O,O,O] rfl rfl (any_of HT_.out (by kernel_rfl)) (fun _ _ _ h => h) (Or.inl ⟨by rfl, ?_⟩) ?_ ?_; rotate_left
              ·intro w'; go_simp; with_reducible rfl
              rotate_left
              ·simp only [Act.put, zA, zB, zC, i64_w, i32_w]; rfl
              as_aux_lemma =>
              refine pure_ (i := 3) (N := some 127) (v := ?_) (a' := ?_) #[Z,Z,Z,Z,O,O,O,O,O,O,O,O,O,O] rfl rfl (any_of HT_.out (by kernel_rfl)) (fun _ _ _ h => h) (Or.inl ⟨by rfl, ?_⟩) ?_ ?_; rotate_left
              ·intro w'; go_simp; with_reducible rfl
              rotate_left
              ·simp only [Act.put, zA, zB, zC, i64_w, i32_w]; rfl
              as_aux_lemma =>
              refine pure_ (i := 4) (N := some 128) (v := ?_) (a' := ?_) #[Z,Z,Z,Z,Z,O,O,O,O,O,O,O,O,O] rfl rfl (any_of HT_.out (by kernel_rfl)) (fun _ _ _ h => h) (Or.inl ⟨by rfl, ?_⟩) ?_ ?_; rotate_left
              ·intro w'; go_simp; with_reducible rfl
              rotate_left
              ·simp only [Act.put, zA, zB, zC, i64_w, i32_w]; rfl
              as_aux_lemma =>
              refine pure_ (i := 5) (N := some 129) (v := ?_) (a' := ?_) #[Z,Z,Z,Z,Z,Z,O,O,O,O,O,O,O,O] rfl rfl (any_of HT_.out (by kernel_rfl)) (fun _ _ _ h => h) (Or.inl ⟨by rfl, ?_⟩) ?_ ?_; rotate_left
              ·intro w'; go_simp; with_reducible rfl
              rotate_left
              ·simp only [Act.put, zA, zB, zC, i64_w, i32_w]; rfl
              as_aux_lemma =>
              refine pure_ (i := 7) (N := some 131) (v := ?_) (a' := ?_) #[Z,Z,Z,Z,Z,Z,O,Z,O,O,O,O,O,O] rfl rfl (any_of HT_.out (by kernel_rfl)) (fun _ _ _ h => h) (Or.inl ⟨by rfl, ?_⟩) ?_ ?_; rotate_left
              ·intro w'; go_simp; with_reducible rfl
              rotate_left
              ·simp only [Act.put, zA, zB, zC, i64_w, i32_w]; rfl
              as_aux_lemma =>
              refine pure_ (i := 8) (N := some 132) (v := ?_) (a' := ?_) #[Z,Z,Z,Z,Z,Z,O,Z,Z,O,O,O,O,O] rfl rfl (any_of HT_.out (by kernel_rfl)) (fun _ _ _ h => h) (Or.inl ⟨by rfl, ?_⟩) ?_ ?_; rotate_left
              ·intro w'; go_simp; with_reducible rfl
              rotate_left
              ·simp only [Act.put, zA, zB, zC, i64_w, i32_w]; rfl
              as_aux_lemma =>
              refine pure_ (i := 9) (N := some 133) (v := ?_) (a' := ?_) #[Z,Z,Z,Z,Z,Z,O,Z,Z,Z,O,O,O,O] rfl rfl (any_of HT_.out (by kernel_rfl)) (fun _ _ _ h => h) (Or.inl ⟨by rfl, ?_⟩) ?_ ?_; rotate_left
              ·intro w'; go_simp; with_reducible rfl
              rotate_left
              ·simp only [Act.put, zA, zB, zC, i64_w, i32_w]; rfl
              as_aux_lemma =>
              refine take_ (i := 6) (N := some 130) (v := ?_) (a' := ?_) #[Z,Z,Z,Z,Z,Z,Z,Z,Z,Z,O,O,O,O] rfl rfl (take_ofW HT_.out HW_.out (by kernel_rfl)) (fun _ _ _ h => h) (Or.inl ⟨by rfl, ?_⟩) hHeld ?_ ?_; rotate_left
              ·rintro w' ⟨s0, s1, s2, s3, s4⟩
               go_simp; with_reducible rfl
              rotate_left
              ·simp only [Act.put, zA, zB, zC, i64_w, i32_w]; rfl
              as_aux_lemma =>
              refine take_ (i := 10) (N := some 134) (v := ?_) (a' := ?_) #[Z,Z,Z,Z,Z,Z,Z,Z,Z,Z,Z,O,O,O] rfl rfl (take_ofW HT_.out HW_.out (by kernel_rfl)) (fun _ _ _ h => h) (Or.inl ⟨by rfl, ?_⟩) hHeld ?_ ?_; rotate_left
              ·rintro w' ⟨s0, s1, s2, s3, s4⟩
               go_simp; with_reducible rfl
              rotate_left
              ·simp only [Act.put, zA, zB, zC, i64_w, i32_w]; rfl
              as_aux_lemma =>
              refine one_ (i := 11) (N := some 135) #[Z,Z,Z,Z,Z,Z,Z,Z,Z,Z,Z,Z,O,O] rfl rfl (one_of HT_.out (by kernel_rfl)) (by decide) (fun K hK => ?_)
              refine goes_ Try.func12 (by kernel_rfl) rfl #[.agg #[.int .i64 ((rd_T63 l4 x16_6).f2.f0), .int .i64 ((rd_T63 l4 x16_6).f2.f1)], .int .i64 (rd l1 x14_2)] (by rfl) rfl rfl (by (try simp only [List.map_toArray, List.map_cons, List.map_nil]); first | done | rfl | (simp only [List.length_drop, List.length_take]; rfl)) ?_; with_reducible refine (span_Has.calls ((rd_T63 l4 x16_6).f2.f0) ((rd_T63 l4 x16_6).f2.f1) (rd l1 x14_2) false _ A46.out).mono ?_
              rintro e w55 ⟨rfl, hb⟩
              refine ⟨_, rfl, ?_⟩
              have n0_ := Aside0.mk (Kd.R_below (by (with_reducible repeat (first | apply Kd.R_alloc | apply Kd.R_drewN | apply Kd.R_drew)); exact HO_13.out) hb); have n1_ := Aside0.mk (blk_below (g := gb101) (o := .cells #[.string a0_0, .slice A0_1 l0_1.length c0_1, .int .i64 a0_2, .slice A0_3 l0_3.length c0_3, .slice A0_4 l0_4.length c0_4, .slice A0_5 l0_5.length c0_5, .slice A0_6 l0_6.length c0_6, .slice A0_7 l0_7.length c0_7, .slice A0_8 l0_8.length c0_8, .slice A0_9 l0_9.length c0_9, .int .i64 a0_10] 41 (0, 0)) abx hb); have n2_ := Aside0.mk (below_step ahx hb); clear HO_13; clear BK101; clear HB; have HO_13 := n0_; have BK101 := n1_; have HB := n2_; clear n0_ n1_ n2_; (try clear hb); (try clear hb2); (try clear hk); (try clear hi); refine hK.out _ _ ⟨((HB.out.cell (World.block_lt_of_cell? w _ hw118_0)).trans hw118_0), ((HB.out.cell (World.block_lt_of_cell? w _ hw118_1)).trans hw118_1), ((HB.out.cell (World.block_lt_of_cell? w _ hw118_2)).trans hw118_2), ((HB.out.cell (World.block_lt_of_cell? w _ hw118_3)).trans hw118_3), ((HB.out.cell (World.block_lt_of_cell? w _ hw119_0)).trans hw119_0)⟩ (fun hHeld => ?_)
              clear hK K
              as_aux_lemma =>
              refine norm_ (a' := ?_) ?_ ?_; rotate_left
              ·show Act.put _ (some 135) _ = _; simp only [Act.put, zA, zB, zC, i64_w, i32_w]; rfl
              as_aux_lemma =>
              refine pure_ (i := 12) (N := some 136) (v := ?_) (a' := ?_) #[Z,Z,Z,Z,Z,Z,Z,Z,Z,Z,Z,Z,Z,O] rfl rfl (any_of HT_.out (by kernel_rfl)) (fun _ _ _ h => h) (Or.inl ⟨by rfl, ?_⟩) ?_ ?_; rotate_left
              ·intro w'; go_simp; with_reducible rfl
              rotate_left
              ·simp only [Act.put, zA, zB, zC, i64_w, i32_w]; rfl
              as_aux_lemma =>
              refine pure_ (i := 13) (N := some 137) (v := ?_) (a' := ?_) #[Z,Z,Z,Z,Z,Z,Z,Z,Z,Z,Z,Z,Z,Z] rfl rfl (any_of HT_.out (by kernel_rfl)) (fun _ _ _ h => h) (Or.inl ⟨by rfl, ?_⟩) ?_ ?_; rotate_left
              ·intro w'; go_simp; with_reducible rfl
              rotate_left
              ·simp only [Act.put, zA, zB, zC, i64_w, i32_w]; rfl
              refine done_ (done_of HT_.out (by kernel_rfl)) ?_
              try go_wp2
              go_ret
              exact ⟨by first | rfl | (simp [errW_none, errW_some] <;> rfl) | (simp only [← hji34]; first | rfl | (simp [errW_none, errW_some] <;> rfl)) | (simp [*, errW_none, errW_some] <;> rfl), ahx⟩
             subst c47; have H1 : (bournelaw26_RainEncloses.l1 k6 l1 l2 a3 l4 t102 y113 x14_2 (wrap64 (x16_6 + 1)) a0_0 l0_1 a0_2 l0_3 l0_4 l0_5 l0_6 l0_7 l0_8 l0_9 a0_10) = some r := by rw [if_pos rfl] at H; exact H
             clear H; have H := H1; clear H1; have H' := Aside0.mk H; clear H; try go_wp2
             have n0_ := Aside0.mk (Kd.R_drew HO_13.out); have n1_ := Aside0.mk (blk_drew BK101.out); have n2_ := Aside0.mk (below_drew1 HB.out); clear HO_13; clear BK101; clear HB; have HO_13 := n0_; have BK101 := n1_; have HB := n2_; clear n0_ n1_ n2_; have p116 : 0 ≤ (x16_6 : Int) := of_decide_eq_true (by first | (with_reducible assumption) | assumption)
             have q116 : x16_6 < (l4.length : Int) := of_decide_eq_true (by first | (with_reducible assumption) | assumption)
             obtain ⟨ad116, e116, hx116_0, hx116_1, hx116_2, hx116_3⟩ := at_T63 HR4.out x16_6 p116 q116
             have hw116_3 := hx116_3; have hw116_2 := hx116_2; have hw116_1 := hx116_1; have hw116_0 := hx116_0
             cases e116
             replace hx116_0 := (HB.out.cell (World.block_lt_of_cell? w _ hx116_0)).trans hx116_0
             replace hx116_1 := (HB.out.cell (World.block_lt_of_cell? w _ hx116_1)).trans hx116_1
             replace hx116_2 := (HB.out.cell (World.block_lt_of_cell? w _ hx116_2)).trans hx116_2
             replace hx116_3 := (HB.out.cell (World.block_lt_of_cell? w _ hx116_3)).trans hx116_3
             replace p116 := eq_true p116
             replace q116 := eq_true q116
             refine start_ (n := 8) (S := fun w' => w'.cell? ⟨gb101, 0, none⟩ = some (.string a0_0) ∧ w'.cell? ⟨gb101, 1, none⟩ = some (.slice A0_1 l0_1.length c0_1) ∧ w'.cell? ⟨gb101, 2, none⟩ = some (.int .i64 a0_2) ∧ w'.cell? ⟨gb101, 3, none⟩ = some (.slice A0_3 l0_3.length c0_3) ∧ w'.cell? ⟨gb101, 4, none⟩ = some (.slice A0_4 l0_4.length c0_4) ∧ w'.cell? ⟨gb101, 5, none⟩ = some (.slice A0_5 l0_5.length c0_5) ∧ w'.cell? ⟨gb101, 6, none⟩ = some (.slice A0_6 l0_6.length c0_6) ∧ w'.cell? ⟨gb101, 7, none⟩ = some (.slice A0_7 l0_7.length c0_7) ∧ w'.cell? ⟨gb101, 8, none⟩ = some (.slice A0_8 l0_8.length c0_8) ∧ w'.cell? ⟨gb101, 9, none⟩ = some (.slice A0_9 l0_9.length c0_9) ∧ w'.cell? ⟨gb101, 10, none⟩ = some (.int .i64 a0_10) ∧ w'.cell? (ad116.add ((x16_6).toNat * 4)) = some (.int .i64 ((rd_T63 l4 x16_6).f0)) ∧ w'.cell? ⟨(ad116.add ((x16_6).toNat * 4)).block, (ad116.add ((x16_6).toNat * 4)).off + 1, none⟩ = some (.int .i64 ((rd_T63 l4 x16_6).f1)) ∧ w'.cell? ⟨(ad116.add ((x16_6).toNat * 4)).block, (ad116.add ((x16_6).toNat * 4)).off + 2, none⟩ = some (.int .i64 ((rd_T63 l4 x16_6).f2.f0)) ∧ w'.cell? ⟨(ad116.add ((x16_6).toNat * 4)).block, (ad116.add ((x16_6).toNat * 4)).off + 3, none⟩ = some (.int .i64 ((rd_T63 l4 x16_6).f2.f1))) (ds := []) #[O,O,O,O,O,O,O,O] (by kernel_rfl) rfl rfl ⟨(blk_cell BK101.out 0).trans rfl, (blk_cell BK101.out 1).trans rfl, (blk_cell BK101.out 2).trans rfl, (blk_cell BK101.out 3).trans rfl, (blk_cell BK101.out 4).trans rfl, (blk_cell BK101.out 5).trans rfl, (blk_cell BK101.out 6).trans rfl, (blk_cell BK101.out 7).trans rfl, (blk_cell BK101.out 8).trans rfl, (blk_cell BK101.out 9).trans rfl, (blk_cell BK101.out 10).trans rfl, ((HB.out.cell (World.block_lt_of_cell? w _ hw116_0)).trans hw116_0), ((HB.out.cell (World.block_lt_of_cell? w _ hw116_1)).trans hw116_1), ((HB.out.cell (World.block_lt_of_cell? w _ hw116_2)).trans hw116_2), ((HB.out.cell (World.block_lt_of_cell? w _ hw116_3)).trans hw116_3)⟩ (fun hHeld => ?_); refine with_tabW bournelaw26_RainEncloses.tab20 bournelaw26_RainEncloses.bits20 (fun HT_ HW_ => ?_)
             generalize wr.drew = w48 at HO_13 BK101 HB hx116_0 hx116_1 hx116_2 hx116_3 hHeld ⊢
             as_aux_lemma =>
             refine pure_ (i := 1) (N := some 118) (v := ?_) (a' := ?_) #[O,Z,O,O,O,O,O,O] rfl rfl (any_of HT_.out (by kernel_rfl)) (fun _ _ _ h => h) (Or.inl ⟨by rfl, ?_⟩) ?_ ?_; rotate_left
             ·intro w'; go_simp; with_reducible rfl
             rotate_left
             ·simp only [Act.put, zA, zB, zC, i64_w, i32_w]; rfl
             as_aux_lemma =>
             refine pure_ (i := 2) (N := some 119) (v := ?_) (a' := ?_) #[O,Z,Z,O,O,O,O,O] rfl rfl (any_of HT_.out (by kernel_rfl)) (fun _ _ _ h => h) (Or.inl ⟨by rfl, ?_⟩) ?_ ?_; rotate_left
             ·intro w'; go_simp; with_reducible rfl
             rotate_left
             ·simp only [Act.put, zA, zB, zC, i64_w, i32_w]; rfl
             as_aux_lemma =>
             refine pure_ (i := 3) (N := some 120) (v := ?_) (a' := ?_) #[O,Z,Z,Z,O,O,O,O] rfl rfl (any_of HT_.out (by kernel_rfl)) (fun _ _ _ h => h) (Or.inl ⟨by rfl, ?_⟩) ?_ ?_; rotate_left
             ·intro w'; go_simp; with_reducible rfl
             rotate_left
             ·simp only [Act.put, zA, zB, zC, i64_w, i32_w]; rfl
             as_aux_lemma =>
             refine pure_ (i := 5) (N := some 122) (v := ?_) (a' := ?_) #[O,Z,Z,Z,O,Z,O,O] rfl rfl (any_of HT_.out (by kernel_rfl)) (fun _ _ _ h => h) (Or.inl ⟨by rfl, ?_⟩) ?_ ?_; rotate_left
             ·intro w'; go_simp; with_reducible rfl
             rotate_left
             ·simp only [Act.put, zA, zB, zC, i64_w, i32_w]; rfl
             as_aux_lemma =>
             refine take_ (i := 0) (N := some 117) (v := ?_) (a' := ?_) #[Z,Z,Z,Z,O,Z,O,O] rfl rfl (take_ofW HT_.out HW_.out (by kernel_rfl)) (fun _ _ _ h => h) (Or.inl ⟨by rfl, ?_⟩) hHeld ?_ ?_; rotate_left
             ·rintro w' ⟨s0, s1, s2, s3, s4, s5, s6, s7, s8, s9, s10, s11, s12, s13, s14⟩
              first | (refine Eq.trans (exec_load (p := .pointer (some ⟨_, 0, none⟩)) rfl rfl (ld41c s0 s1 s2 s3 s4 s5 s6 s7 s8 s9 s10)) ?_; with_reducible rfl)
             rotate_left
             ·simp only [Act.put, zA, zB, zC, i64_w, i32_w]; rfl
             as_aux_lemma =>
             refine take_ (i := 4) (N := some 121) (v := ?_) (a' := ?_) #[Z,Z,Z,Z,Z,Z,O,O] rfl rfl (take_ofW HT_.out HW_.out (by kernel_rfl)) (fun _ _ _ h => h) (Or.inl ⟨by rfl, ?_⟩) hHeld ?_ ?_; rotate_left
             ·rintro w' ⟨s0, s1, s2, s3, s4, s5, s6, s7, s8, s9, s10, s11, s12, s13, s14⟩
              go_simp; with_reducible rfl
             rotate_left
             ·simp only [Act.put, zA, zB, zC, i64_w, i32_w]; rfl
             as_aux_lemma =>
             refine one_ (i := 6) (N := some 123) #[Z,Z,Z,Z,Z,Z,Z,O] rfl rfl (one_of HT_.out (by kernel_rfl)) (by decide) (fun K hK => ?_)
             refine goes_ Try.func25 (by kernel_rfl) rfl #[.agg #[.string a0_0, .slice A0_1 l0_1.length c0_1, .int .i64 a0_2, .slice A0_3 l0_3.length c0_3, .slice A0_4 l0_4.length c0_4, .slice A0_5 l0_5.length c0_5, .slice A0_6 l0_6.length c0_6, .slice A0_7 l0_7.length c0_7, .slice A0_8 l0_8.length c0_8, .slice A0_9 l0_9.length c0_9, .int .i64 a0_10], .agg #[.int .i64 ((rd_T63 l4 x16_6).f0), .int .i64 ((rd_T63 l4 x16_6).f1), .int .i64 ((rd_T63 l4 x16_6).f2.f0), .int .i64 ((rd_T63 l4 x16_6).f2.f1)], .int .i64 x14_2] (by rfl) rfl rfl (by (try simp only [List.map_toArray, List.map_cons, List.map_nil]); first | done | rfl | (simp only [List.length_drop, List.length_take]; rfl)) ?_; with_reducible refine (bourneref26_Of.calls a0_0 _ _ l0_1 a0_2 _ _ l0_3 _ _ l0_4 _ _ l0_5 _ _ l0_6 _ _ l0_7 _ _ l0_8 _ _ l0_9 a0_10 ((rd_T63 l4 x16_6).f0) ((rd_T63 l4 x16_6).f1) ((rd_T63 l4 x16_6).f2.f0) ((rd_T63 l4 x16_6).f2.f1) x14_2 true _ ?side1 ?side2 ?side3 ?side4 ?side5 ?side6 ?side7 ?side8 ?side9 ?side10 ?side11 ?side12 ?side13 ?side14 ?side15 ?side16 A42.out).mono ?_
             (case side1 => repeat (first | exact (Kd.C_below HR0_1.out HB.out) | with_reducible first | refine Kd.C_alloc ?_ _ | refine Kd.C_drewN ?_ _ | refine Kd.C_drew ?_)); (case side2 => exact HC0_1.out); (case side3 => repeat (first | exact (Kd.C_below HR0_3.out HB.out) | with_reducible first | refine Kd.C_alloc ?_ _ | refine Kd.C_drewN ?_ _ | refine Kd.C_drew ?_)); (case side4 => exact HC0_3.out); (case side5 => repeat (first | exact (Kd.C_below HR0_4.out HB.out) | with_reducible first | refine Kd.C_alloc ?_ _ | refine Kd.C_drewN ?_ _ | refine Kd.C_drew ?_)); (case side6 => exact HC0_4.out); (case side7 => repeat (first | exact (Kd.C_below HR0_5.out HB.out) | with_reducible first | refine Kd.C_alloc ?_ _ | refine Kd.C_drewN ?_ _ | refine Kd.C_drew ?_)); (case side8 => exact HC0_5.out); (case side9 => repeat (first | exact (Kd.C_below HR0_6.out HB.out) | with_reducible first | refine Kd.C_alloc ?_ _ | refine Kd.C_drewN ?_ _ | refine Kd.C_drew ?_)); (case side10 => exact HC0_6.out); (case side11 => repeat (first | exact (Kd.C_below HR0_7.out HB.out) | with_reducible first | refine Kd.C_alloc ?_ _ | refine Kd.C_drewN ?_ _ | refine Kd.C_drew ?_)); (case side12 => exact HC0_7.out); (case side13 => repeat (first | exact (Kd.C_below HR0_8.out HB.out) | with_reducible first | refine Kd.C_alloc ?_ _ | refine Kd.C_drewN ?_ _ | refine Kd.C_drew ?_)); (case side14 => exact HC0_8.out); (case side15 => repeat (first | exact (Kd.C_below HR0_9.out HB.out) | with_reducible first | refine Kd.C_alloc ?_ _ | refine Kd.C_drewN ?_ _ | refine Kd.C_drew ?_)); (case side16 => exact HC0_9.out); rintro e w49 ⟨rfl, hb⟩
             refine ⟨_, rfl, ?_⟩
             have n0_ := Aside0.mk (Kd.R_below (by (with_reducible repeat (first | apply Kd.R_alloc | apply Kd.R_drewN | apply Kd.R_drew)); exact HO_13.out) hb); have n1_ := Aside0.mk (blk_below (g := gb101) (o := .cells #[.string a0_0, .slice A0_1 l0_1.length c0_1, .int .i64 a0_2, .slice A0_3 l0_3.length c0_3, .slice A0_4 l0_4.length c0_4, .slice A0_5 l0_5.length c0_5, .slice A0_6 l0_6.length c0_6, .slice A0_7 l0_7.length c0_7, .slice A0_8 l0_8.length c0_8, .slice A0_9 l0_9.length c0_9, .int .i64 a0_10] 41 (0, 0)) abx hb); have n2_ := Aside0.mk (below_step ahx hb); clear HO_13; clear BK101; clear HB; have HO_13 := n0_; have BK101 := n1_; have HB := n2_; clear n0_ n1_ n2_; (try clear hb); (try clear hb2); (try clear hk); (try clear hi); refine hK.out _ _ ⟨(blk_cell BK101.out 0).trans rfl, (blk_cell BK101.out 1).trans rfl, (blk_cell BK101.out 2).trans rfl, (blk_cell BK101.out 3).trans rfl, (blk_cell BK101.out 4).trans rfl, (blk_cell BK101.out 5).trans rfl, (blk_cell BK101.out 6).trans rfl, (blk_cell BK101.out 7).trans rfl, (blk_cell BK101.out 8).trans rfl, (blk_cell BK101.out 9).trans rfl, (blk_cell BK101.out 10).trans rfl, ((HB.out.cell (World.block_lt_of_cell? w _ hw116_0)).trans hw116_0), ((HB.out.cell (World.block_lt_of_cell? w _ hw116_1)).trans hw116_1), ((HB.out.cell (World.block_lt_of_cell? w _ hw116_2)).trans hw116_2), ((HB.out.cell (World.block_lt_of_cell? w _ hw116_3)).trans hw116_3)⟩ (fun hHeld => ?_)
             clear hK K
             as_aux_lemma =>
             refine norm_ (a' := ?_) ?_ ?_; rotate_left
             ·show Act.put _ (some 123) _ = _; simp only [Act.put, zA, zB, zC, i64_w, i32_w]; rfl
             as_aux_lemma =>
             refine pure_ (i := 7) (N := some 17) (v := ?_) (a' := ?_) #[Z,Z,Z,Z,Z,Z,Z,Z] rfl rfl (any_of HT_.out (by kernel_rfl)) (fun _ _ _ h => h) (Or.inl ⟨by rfl, ?_⟩) ?_ ?_; rotate_left
             ·intro w'; go_simp; with_reducible rfl
             rotate_left
             ·simp only [Act.put, zA, zB, zC, i64_w, i32_w]; rfl
             refine done_ (done_of HT_.out (by kernel_rfl)) ?_
             try go_wp2
             have n0_ := Aside0.mk (Kd.R_drew HO_13.out); have n1_ := Aside0.mk (blk_drew BK101.out); have n2_ := Aside0.mk (below_drew1 HB.out); clear HO_13; clear BK101; clear HB; have HO_13 := n0_; have BK101 := n1_; have HB := n2_; clear n0_ n1_ n2_; have p118 : 0 ≤ (x16_6 : Int) := of_decide_eq_true (by first | (with_reducible assumption) | assumption)
             have q118 : x16_6 < (l4.length : Int) := of_decide_eq_true (by first | (with_reducible assumption) | assumption)
             obtain ⟨ad118, e118, hx118_0, hx118_1, hx118_2, hx118_3⟩ := at_T63 HR4.out x16_6 p118 q118
             have hw118_3 := hx118_3; have hw118_2 := hx118_2; have hw118_1 := hx118_1; have hw118_0 := hx118_0; obtain rfl : ad116 = ad118 := (by injection e118)
             replace hx118_0 := (HB.out.cell (World.block_lt_of_cell? w _ hx118_0)).trans hx118_0
             replace hx118_1 := (HB.out.cell (World.block_lt_of_cell? w _ hx118_1)).trans hx118_1
             replace hx118_2 := (HB.out.cell (World.block_lt_of_cell? w _ hx118_2)).trans hx118_2
             replace hx118_3 := (HB.out.cell (World.block_lt_of_cell? w _ hx118_3)).trans hx118_3
             replace p118 := eq_true p118
             replace q118 := eq_true q118
             have p119 : 0 ≤ (x14_2 : Int) := of_decide_eq_true (by first | (with_reducible assumption) | assumption)
             have q119 : x14_2 < (l1.length : Int) := of_decide_eq_true (by first | (with_reducible assumption) | assumption)
             obtain ⟨ad119, e119, hx119_0⟩ := Kd.at_int HR1.out x14_2 p119 q119
             have hw119_0 := hx119_0; obtain rfl : ad106 = ad119 := (by injection e119)
             replace hx119_0 := (HB.out.cell (World.block_lt_of_cell? w _ hx119_0)).trans hx119_0
             replace p119 := eq_true p119
             replace q119 := eq_true q119
             refine start_ (n := 14) (S := fun w' => w'.cell? (ad116.add ((x16_6).toNat * 4)) = some (.int .i64 ((rd_T63 l4 x16_6).f0)) ∧ w'.cell? ⟨(ad116.add ((x16_6).toNat * 4)).block, (ad116.add ((x16_6).toNat * 4)).off + 1, none⟩ = some (.int .i64 ((rd_T63 l4 x16_6).f1)) ∧ w'.cell? ⟨(ad116.add ((x16_6).toNat * 4)).block, (ad116.add ((x16_6).toNat * 4)).off + 2, none⟩ = some (.int .i64 ((rd_T63 l4 x16_6).f2.f0)) ∧ w'.cell? ⟨(ad116.add ((x16_6).toNat * 4)).block, (ad116.add ((x16_6).toNat * 4)).off + 3, none⟩ = some (.int .i64 ((rd_T63 l4 x16_6).f2.f1)) ∧ w'.cell? (ad106.add (x14_2).toNat) = some (.int .i64 (rd l1 x14_2))) (ds := []) #[O,O,O,O,O,O,O,O,O,O,O,O,O,O] (by kernel_rfl) rfl rfl ⟨((HB.out.cell (World.block_lt_of_cell? w _ hw118_0)).trans hw118_0), ((HB.out.cell (World.block_lt_of_cell? w _ hw118_1)).trans hw118_1), ((HB.out.cell (World.block_lt_of_cell? w _ hw118_2)).trans hw118_2), ((HB.out.cell (World.block_lt_of_cell? w _ hw118_3)).trans hw118_3), ((HB.out.cell (World.block_lt_of_cell? w _ hw119_0)).trans hw119_0)⟩ (fun hHeld => ?_); refine with_tabW bournelaw26_RainEncloses.tab21 bournelaw26_RainEncloses.bits21 (fun HT_ HW_ => ?_)
             generalize w49.drew = w50 at HO_13 BK101 HB hx118_0 hx118_1 hx118_2 hx118_3 hx119_0 hHeld ⊢
             as_aux_lemma =>
             refine pure_ (i := 0) (N := some 124) (v := ?_) (a' := ?_) #[Z,O,O,O,O,O,O,O,O,O,O,O,O,O] rfl rfl (any_of HT_.out (by kernel_rfl)) (fun _ _ _ h => h) (Or.inl ⟨by rfl, ?_⟩) ?_ ?_; rotate_left
             ·intro w'; go_simp; with_reducible rfl
             rotate_left
             ·simp only [Act.put, zA, zB, zC, i64_w, i32_w]; rfl
             as_aux_lemma =>
             refine pure_ (i := 1) (N := some 125) (v := ?_) (a' := ?_) #[Z,Z,O,O,O,O,O,O,O,O,O,O,O,O] rfl rfl (any_of HT_.out (by kernel_rfl)) (fun _ _ _ h => h) (Or.inl ⟨by rfl, ?_⟩) ?_ ?_; rotate_left
             ·intro w'; go_simp; with_reducible rfl
             rotate_left
             ·simp only [Act.put, zA, zB, zC, i64_w, i32_w]; rfl
             as_aux_lemma =>
             refine pure_ (i := 2) (N := some 126) (v := ?_) (a' := ?_) #[Z,Z,Z,O,O,O,O,O,O,O,O,O,O,O] rfl rfl (any_of HT_.out (by kernel_rfl)) (fun _ _ _ h => h) (Or.inl ⟨by rfl, ?_⟩) ?_ ?_; rotate_left
             ·intro w'; go_simp; with_reducible rfl
             rotate_left
             ·simp only [Act.put, zA, zB, zC, i64_w, i32_w]; rfl
             as_aux_lemma =>
             refine pure_ (i := 3) (N := some 127) (v := ?_) (a' := ?_) #[Z,Z,Z,Z,O,O,O,O,O,O,O,O,O,O] rfl rfl (any_of HT_.out (by kernel_rfl)) (fun _ _ _ h => h) (Or.inl ⟨by rfl, ?_⟩) ?_ ?_; rotate_left
             ·intro w'; go_simp; with_reducible rfl
             rotate_left
             ·simp only [Act.put, zA, zB, zC, i64_w, i32_w]; rfl
             as_aux_lemma =>
             refine pure_ (i := 4) (N := some 128) (v := ?_) (a' := ?_) #[Z,Z,Z,Z,Z,O,O,O,O,O,O,O,O,O] rfl rfl (any_of HT_.out (by kernel_rfl)) (fun _ _ _ h => h) (Or.inl ⟨by rfl, ?_⟩) ?_ ?_; rotate_left
             ·intro w'; go_simp; with_reducible rfl
             rotate_left
             ·simp only [Act.put, zA, zB, zC, i64_w, i32_w]; rfl
             as_aux_lemma =>
             refine pure_ (i := 5) (N := some 129) (v := ?_) (a' := ?_) #[Z,Z,Z,Z,Z,Z,O,O,O,O,O,O,O,O] rfl rfl (any_of HT_.out (by kernel_rfl)) (fun _ _ _ h => h) (Or.inl ⟨by rfl, ?_⟩) ?_ ?_; rotate_left
             ·intro w'; go_simp; with_reducible rfl
             rotate_left
             ·simp only [Act.put, zA, zB, zC, i64_w, i32_w]; rfl
             as_aux_lemma =>
             refine pure_ (i := 7) (N := some 131) (v := ?_) (a' := ?_) #[Z,Z,Z,Z,Z,Z,O,Z,O,O,O,O,O,O] rfl rfl (any_of HT_.out (by kernel_rfl)) (fun _ _ _ h => h) (Or.inl ⟨by rfl, ?_⟩) ?_ ?_; rotate_left
             ·intro w'; go_simp; with_reducible rfl
             rotate_left
             ·simp only [Act.put, zA, zB, zC, i64_w, i32_w]; rfl
             as_aux_lemma =>
             refine pure_ (i := 8) (N := some 132) (v := ?_) (a' := ?_) #[Z,Z,Z,Z,Z,Z,O,Z,Z,O,O,O,O,O] rfl rfl (any_of HT_.out (by kernel_rfl)) (fun _ _ _ h => h) (Or.inl ⟨by rfl, ?_⟩) ?_ ?_; rotate_left
             ·intro w'; go_simp; with_reducible rfl
             rotate_left
             ·simp only [Act.put, zA, zB, zC, i64_w, i32_w]; rfl
             as_aux_lemma =>
             refine pure_ (i := 9) (N := some 133) (v := ?_) (a' := ?_) #[Z,Z,Z,Z,Z,Z,O,Z,Z,Z,O,O,O,O] rfl rfl (any_of HT_.out (by kernel_rfl)) (fun _ _ _ h => h) (Or.inl ⟨by rfl, ?_⟩) ?_ ?_; rotate_left
             ·intro w'; go_simp; with_reducible rfl
             rotate_left
             ·simp only [Act.put, zA, zB, zC, i64_w, i32_w]; rfl
             as_aux_lemma =>
             refine take_ (i := 6) (N := some 130) (v := ?_) (a' := ?_) #[Z,Z,Z,Z,Z,Z,Z,Z,Z,Z,O,O,O,O] rfl rfl (take_ofW HT_.out HW_.out (by kernel_rfl)) (fun _ _ _ h => h) (Or.inl ⟨by rfl, ?_⟩) hHeld ?_ ?_; rotate_left
             ·rintro w' ⟨s0, s1, s2, s3, s4⟩
              go_simp; with_reducible rfl
             rotate_left
             ·simp only [Act.put, zA, zB, zC, i64_w, i32_w]; rfl
             as_aux_lemma =>
             refine take_ (i := 10) (N := some 134) (v := ?_) (a' := ?_) #[Z,Z,Z,Z,Z,Z,Z,Z,Z,Z,Z,O,O,O] rfl rfl (take_ofW HT_.out HW_.out (by kernel_rfl)) (fun _ _ _ h => h) (Or.inl ⟨by rfl, ?_⟩) hHeld ?_ ?_; rotate_left
             ·rintro w' ⟨s0, s1, s2, s3, s4⟩
              go_simp; with_reducible rfl
             rotate_left
             ·simp only [Act.put, zA, zB, zC, i64_w, i32_w]; rfl
             as_aux_lemma =>
             refine one_ (i := 11) (N := some 135) #[Z,Z,Z,Z,Z,Z,Z,Z,Z,Z,Z,Z,O,O] rfl rfl (one_of HT_.out (by kernel_rfl)) (by decide) (fun K hK => ?_)
             refine goes_ Try.func12 (by kernel_rfl) rfl #[.agg #[.int .i64 ((rd_T63 l4 x16_6).f2.f0), .int .i64 ((rd_T63 l4 x16_6).f2.f1)], .int .i64 (rd l1 x14_2)] (by rfl) rfl rfl (by (try simp only [List.map_toArray, List.map_cons, List.map_nil]); first | done | rfl | (simp only [List.length_drop, List.length_take]; rfl)) ?_; with_reducible refine (span_Has.calls ((rd_T63 l4 x16_6).f2.f0) ((rd_T63 l4 x16_6).f2.f1) (rd l1 x14_2) true _ A46.out).mono ?_
             rintro e w51 ⟨rfl, hb⟩
             refine ⟨_, rfl, ?_⟩
             have n0_ := Aside0.mk (Kd.R_below (by (with_reducible repeat (first | apply Kd.R_alloc | apply Kd.R_drewN | apply Kd.R_drew)); exact HO_13.out) hb); have n1_ := Aside0.mk (blk_below (g := gb101) (o := .cells #[.string a0_0, .slice A0_1 l0_1.length c0_1, .int .i64 a0_2, .slice A0_3 l0_3.length c0_3, .slice A0_4 l0_4.length c0_4, .slice A0_5 l0_5.length c0_5, .slice A0_6 l0_6.length c0_6, .slice A0_7 l0_7.length c0_7, .slice A0_8 l0_8.length c0_8, .slice A0_9 l0_9.length c0_9, .int .i64 a0_10] 41 (0, 0)) abx hb); have n2_ := Aside0.mk (below_step ahx hb); clear HO_13; clear BK101; clear HB; have HO_13 := n0_; have BK101 := n1_; have HB := n2_; clear n0_ n1_ n2_; (try clear hb); (try clear hb2); (try clear hk); (try clear hi); refine hK.out _ _ ⟨((HB.out.cell (World.block_lt_of_cell? w _ hw118_0)).trans hw118_0), ((HB.out.cell (World.block_lt_of_cell? w _ hw118_1)).trans hw118_1), ((HB.out.cell (World.block_lt_of_cell? w _ hw118_2)).trans hw118_2), ((HB.out.cell (World.block_lt_of_cell? w _ hw118_3)).trans hw118_3), ((HB.out.cell (World.block_lt_of_cell? w _ hw119_0)).trans hw119_0)⟩ (fun hHeld => ?_)
             clear hK K
             as_aux_lemma =>
             refine norm_ (a' := ?_) ?_ ?_; rotate_left
             ·show Act.put _ (some 135) _ = _; simp only [Act.put, zA, zB, zC, i64_w, i32_w]; rfl
             as_aux_lemma =>
             refine pure_ (i := 12) (N := some 136) (v := ?_) (a' := ?_) #[Z,Z,Z,Z,Z,Z,Z,Z,Z,Z,Z,Z,Z,O] rfl rfl (any_of HT_.out (by kernel_rfl)) (fun _ _ _ h => h) (Or.inl ⟨by rfl, ?_⟩) ?_ ?_; rotate_left
             ·intro w'; go_simp; with_reducible rfl
             rotate_left
             ·simp only [Act.put, zA, zB, zC, i64_w, i32_w]; rfl
             as_aux_lemma =>
             refine pure_ (i := 13) (N := some 137) (v := ?_) (a' := ?_) #[Z,Z,Z,Z,Z,Z,Z,Z,Z,Z,Z,Z,Z,Z] rfl rfl (any_of HT_.out (by kernel_rfl)) (fun _ _ _ h => h) (Or.inl ⟨by rfl, ?_⟩) ?_ ?_; rotate_left
             ·intro w'; go_simp; with_reducible rfl
             rotate_left
             ·simp only [Act.put, zA, zB, zC, i64_w, i32_w]; rfl
             refine done_ (done_of HT_.out (by kernel_rfl)) ?_
             try go_wp2
             go_roundg k6
             case measure => have := HJ7.out; have := HK2.out; have := HJ21.out; have := HJ27.out; have := HJ34.out; have := HK6.out; omega
             case rel => exact ⟨(wrap64 (x16_6 + 1)), (by first | rfl | (simp; done) | (simp [*]; done)), H', ⟨by have := HJ7.out; have := HK2.out; have := HJ21.out; have := HJ27.out; have := HJ34.out; have := HK6.out; omega⟩, ⟨by (with_reducible repeat (first | apply Kd.R_alloc | apply Kd.R_drewN | apply Kd.R_drew)); exact HO_13.out⟩, ⟨by (with_reducible repeat (first | refine blk_drewN ?_ _ | refine blk_drew ?_ | refine blk_alloc ?_ _)); exact BK101.out⟩, ⟨ahx⟩⟩

end Go.Proofs.Ytcdlielgifkemaa.U
