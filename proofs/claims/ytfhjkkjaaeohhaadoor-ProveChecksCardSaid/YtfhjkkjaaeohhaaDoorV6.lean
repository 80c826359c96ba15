/- A part of the proof that the law answers true for every input; the conditions are those of the card: the listed variable reads as the program lays it. -/
import Derived.Test.YtfhjkkjaaeohhaaDoorV5
import Derived.KernelRfl
set_option linter.unusedSimpArgs false
set_option linter.unusedVariables false
/- Chapter 12, the laws: the form of a proof in the reference, a step. -/
set_option maxRecDepth 100000
set_option maxHeartbeats 4000000
namespace Go.Vm
section
universe u
variable {α : Type u} {d : α}
theorem gd80 {x0 x1 x2 x3 x4 x5 x6 x7 x8 x9 x10 x11 x12 x13 x14 x15 x16 x17 x18 x19 x20 x21 x22 x23 x24 x25 x26 x27 x28 x29 x30 x31 x32 x33 x34 x35 x36 x37 x38 x39 x40 x41 x42 x43 x44 x45 x46 x47 x48 x49 x50 x51 x52 x53 x54 x55 x56 x57 x58 x59 x60 x61 x62 x63 x64 x65 x66 x67 x68 x69 x70 x71 x72 x73 x74 x75 x76 x77 x78 x79 x80 : α} {r : List α} : List.getD (x0 :: x1 :: x2 :: x3 :: x4 :: x5 :: x6 :: x7 :: x8 :: x9 :: x10 :: x11 :: x12 :: x13 :: x14 :: x15 :: x16 :: x17 :: x18 :: x19 :: x20 :: x21 :: x22 :: x23 :: x24 :: x25 :: x26 :: x27 :: x28 :: x29 :: x30 :: x31 :: x32 :: x33 :: x34 :: x35 :: x36 :: x37 :: x38 :: x39 :: x40 :: x41 :: x42 :: x43 :: x44 :: x45 :: x46 :: x47 :: x48 :: x49 :: x50 :: x51 :: x52 :: x53 :: x54 :: x55 :: x56 :: x57 :: x58 :: x59 :: x60 :: x61 :: x62 :: x63 :: x64 :: x65 :: x66 :: x67 :: x68 :: x69 :: x70 :: x71 :: x72 :: x73 :: x74 :: x75 :: x76 :: x77 :: x78 :: x79 :: x80 :: r) 80 d = x80 := id rfl
theorem gd81 {x0 x1 x2 x3 x4 x5 x6 x7 x8 x9 x10 x11 x12 x13 x14 x15 x16 x17 x18 x19 x20 x21 x22 x23 x24 x25 x26 x27 x28 x29 x30 x31 x32 x33 x34 x35 x36 x37 x38 x39 x40 x41 x42 x43 x44 x45 x46 x47 x48 x49 x50 x51 x52 x53 x54 x55 x56 x57 x58 x59 x60 x61 x62 x63 x64 x65 x66 x67 x68 x69 x70 x71 x72 x73 x74 x75 x76 x77 x78 x79 x80 x81 : α} {r : List α} : List.getD (x0 :: x1 :: x2 :: x3 :: x4 :: x5 :: x6 :: x7 :: x8 :: x9 :: x10 :: x11 :: x12 :: x13 :: x14 :: x15 :: x16 :: x17 :: x18 :: x19 :: x20 :: x21 :: x22 :: x23 :: x24 :: x25 :: x26 :: x27 :: x28 :: x29 :: x30 :: x31 :: x32 :: x33 :: x34 :: x35 :: x36 :: x37 :: x38 :: x39 :: x40 :: x41 :: x42 :: x43 :: x44 :: x45 :: x46 :: x47 :: x48 :: x49 :: x50 :: x51 :: x52 :: x53 :: x54 :: x55 :: x56 :: x57 :: x58 :: x59 :: x60 :: x61 :: x62 :: x63 :: x64 :: x65 :: x66 :: x67 :: x68 :: x69 :: x70 :: x71 :: x72 :: x73 :: x74 :: x75 :: x76 :: x77 :: x78 :: x79 :: x80 :: x81 :: r) 81 d = x81 := id rfl
theorem gd82 {x0 x1 x2 x3 x4 x5 x6 x7 x8 x9 x10 x11 x12 x13 x14 x15 x16 x17 x18 x19 x20 x21 x22 x23 x24 x25 x26 x27 x28 x29 x30 x31 x32 x33 x34 x35 x36 x37 x38 x39 x40 x41 x42 x43 x44 x45 x46 x47 x48 x49 x50 x51 x52 x53 x54 x55 x56 x57 x58 x59 x60 x61 x62 x63 x64 x65 x66 x67 x68 x69 x70 x71 x72 x73 x74 x75 x76 x77 x78 x79 x80 x81 x82 : α} {r : List α} : List.getD (x0 :: x1 :: x2 :: x3 :: x4 :: x5 :: x6 :: x7 :: x8 :: x9 :: x10 :: x11 :: x12 :: x13 :: x14 :: x15 :: x16 :: x17 :: x18 :: x19 :: x20 :: x21 :: x22 :: x23 :: x24 :: x25 :: x26 :: x27 :: x28 :: x29 :: x30 :: x31 :: x32 :: x33 :: x34 :: x35 :: x36 :: x37 :: x38 :: x39 :: x40 :: x41 :: x42 :: x43 :: x44 :: x45 :: x46 :: x47 :: x48 :: x49 :: x50 :: x51 :: x52 :: x53 :: x54 :: x55 :: x56 :: x57 :: x58 :: x59 :: x60 :: x61 :: x62 :: x63 :: x64 :: x65 :: x66 :: x67 :: x68 :: x69 :: x70 :: x71 :: x72 :: x73 :: x74 :: x75 :: x76 :: x77 :: x78 :: x79 :: x80 :: x81 :: x82 :: r) 82 d = x82 := id rfl
theorem gd83 {x0 x1 x2 x3 x4 x5 x6 x7 x8 x9 x10 x11 x12 x13 x14 x15 x16 x17 x18 x19 x20 x21 x22 x23 x24 x25 x26 x27 x28 x29 x30 x31 x32 x33 x34 x35 x36 x37 x38 x39 x40 x41 x42 x43 x44 x45 x46 x47 x48 x49 x50 x51 x52 x53 x54 x55 x56 x57 x58 x59 x60 x61 x62 x63 x64 x65 x66 x67 x68 x69 x70 x71 x72 x73 x74 x75 x76 x77 x78 x79 x80 x81 x82 x83 : α} {r : List α} : List.getD (x0 :: x1 :: x2 :: x3 :: x4 :: x5 :: x6 :: x7 :: x8 :: x9 :: x10 :: x11 :: x12 :: x13 :: x14 :: x15 :: x16 :: x17 :: x18 :: x19 :: x20 :: x21 :: x22 :: x23 :: x24 :: x25 :: x26 :: x27 :: x28 :: x29 :: x30 :: x31 :: x32 :: x33 :: x34 :: x35 :: x36 :: x37 :: x38 :: x39 :: x40 :: x41 :: x42 :: x43 :: x44 :: x45 :: x46 :: x47 :: x48 :: x49 :: x50 :: x51 :: x52 :: x53 :: x54 :: x55 :: x56 :: x57 :: x58 :: x59 :: x60 :: x61 :: x62 :: x63 :: x64 :: x65 :: x66 :: x67 :: x68 :: x69 :: x70 :: x71 :: x72 :: x73 :: x74 :: x75 :: x76 :: x77 :: x78 :: x79 :: x80 :: x81 :: x82 :: x83 :: r) 83 d = x83 := id rfl
theorem gd84 {x0 x1 x2 x3 x4 x5 x6 x7 x8 x9 x10 x11 x12 x13 x14 x15 x16 x17 x18 x19 x20 x21 x22 x23 x24 x25 x26 x27 x28 x29 x30 x31 x32 x33 x34 x35 x36 x37 x38 x39 x40 x41 x42 x43 x44 x45 x46 x47 x48 x49 x50 x51 x52 x53 x54 x55 x56 x57 x58 x59 x60 x61 x62 x63 x64 x65 x66 x67 x68 x69 x70 x71 x72 x73 x74 x75 x76 x77 x78 x79 x80 x81 x82 x83 x84 : α} {r : List α} : List.getD (x0 :: x1 :: x2 :: x3 :: x4 :: x5 :: x6 :: x7 :: x8 :: x9 :: x10 :: x11 :: x12 :: x13 :: x14 :: x15 :: x16 :: x17 :: x18 :: x19 :: x20 :: x21 :: x22 :: x23 :: x24 :: x25 :: x26 :: x27 :: x28 :: x29 :: x30 :: x31 :: x32 :: x33 :: x34 :: x35 :: x36 :: x37 :: x38 :: x39 :: x40 :: x41 :: x42 :: x43 :: x44 :: x45 :: x46 :: x47 :: x48 :: x49 :: x50 :: x51 :: x52 :: x53 :: x54 :: x55 :: x56 :: x57 :: x58 :: x59 :: x60 :: x61 :: x62 :: x63 :: x64 :: x65 :: x66 :: x67 :: x68 :: x69 :: x70 :: x71 :: x72 :: x73 :: x74 :: x75 :: x76 :: x77 :: x78 :: x79 :: x80 :: x81 :: x82 :: x83 :: x84 :: r) 84 d = x84 := id rfl
end
attribute [go_sem] gd80 gd81 gd82 gd83 gd84
end Go.Vm
namespace Go.Vm.P12
open Go Go.Vm
def s77A : List ROp := [
  ⟨none, none, .faddr 1 (.var 6)⟩,
  ⟨none, none, .load false 1 (.loc 0)⟩,
  ⟨none, none, .bin .neq (.loc 1) (.k (.int .i64 0))⟩,
  ⟨none, none, .mv (.loc 2)⟩,
  ⟨none, some (3, false), .faddr 2 (.var 6)⟩,
  ⟨none, some (3, false), .load false 1 (.loc 4)⟩,
  ⟨none, some (3, false), .len .sl (.loc 5)⟩,
  ⟨none, some (3, false), .bin .gtr (.loc 6) (.k (.int .i64 0))⟩,
  ⟨none, none, .pick (.loc 3) (.k (.bool true)) (.loc 7)⟩,
  ⟨none, none, .mv (.loc 8)⟩,
  ⟨none, some (9, false), .faddr 3 (.var 6)⟩,
  ⟨none, some (9, false), .load false 1 (.loc 10)⟩,
  ⟨none, some (9, false), .len .sl (.loc 11)⟩,
  ⟨none, some (9, false), .bin .gtr (.loc 12) (.k (.int .i64 0))⟩,
  ⟨none, none, .pick (.loc 9) (.k (.bool true)) (.loc 13)⟩,
  ⟨none, none, .mv (.loc 14)⟩,
  ⟨none, some (15, false), .faddr 4 (.var 6)⟩,
  ⟨none, some (15, false), .load false 1 (.loc 16)⟩,
  ⟨none, some (15, false), .len .sl (.loc 17)⟩,
  ⟨none, some (15, false), .bin .gtr (.loc 18) (.k (.int .i64 0))⟩,
  ⟨none, none, .pick (.loc 15) (.k (.bool true)) (.loc 19)⟩]
def s77B : List ROp := [
  ⟨none, none, .faddr 5 (.var 6)⟩,
  ⟨none, none, .load false 1 (.loc 22)⟩,
  ⟨none, none, .bin .lss (.loc 23) (.k (.int .i64 0))⟩,
  ⟨none, none, .mv (.loc 24)⟩,
  ⟨none, some (25, false), .faddr 5 (.var 6)⟩,
  ⟨none, some (25, false), .load false 1 (.loc 26)⟩,
  ⟨none, some (25, false), .mv (.var 7)⟩,
  ⟨none, some (25, false), .bin .geq (.loc 27) (.loc 28)⟩,
  ⟨none, none, .pick (.loc 25) (.k (.bool true)) (.loc 29)⟩]
def s77D : List ROp := [
  ⟨none, none, .faddr 7 (.var 6)⟩,
  ⟨none, none, .iaddr (some 2) 1 (.loc 35) (.k (.int .i64 0))⟩,
  ⟨none, none, .load false 1 (.loc 36)⟩,
  ⟨none, none, .bin .lss (.loc 37) (.k (.int .i64 0))⟩,
  ⟨none, none, .mv (.loc 38)⟩,
  ⟨none, some (39, false), .faddr 7 (.var 6)⟩,
  ⟨none, some (39, false), .iaddr (some 2) 1 (.loc 40) (.k (.int .i64 0))⟩,
  ⟨none, some (39, false), .load false 1 (.loc 41)⟩,
  ⟨none, some (39, false), .mv (.var 2)⟩,
  ⟨none, some (39, false), .bin .geq (.loc 42) (.loc 43)⟩,
  ⟨none, none, .pick (.loc 39) (.k (.bool true)) (.loc 44)⟩,
  ⟨none, none, .mv (.loc 45)⟩,
  ⟨none, some (46, false), .faddr 7 (.var 6)⟩,
  ⟨none, some (46, false), .iaddr (some 2) 1 (.loc 47) (.k (.int .i64 1))⟩,
  ⟨none, some (46, false), .load false 1 (.loc 48)⟩,
  ⟨none, some (46, false), .bin .lss (.loc 49) (.k (.int .i64 0))⟩,
  ⟨none, none, .pick (.loc 46) (.k (.bool true)) (.loc 50)⟩,
  ⟨none, none, .mv (.loc 51)⟩,
  ⟨none, some (52, false), .faddr 7 (.var 6)⟩,
  ⟨none, some (52, false), .iaddr (some 2) 1 (.loc 53) (.k (.int .i64 1))⟩,
  ⟨none, some (52, false), .load false 1 (.loc 54)⟩,
  ⟨none, some (52, false), .mv (.var 2)⟩,
  ⟨none, some (52, false), .bin .geq (.loc 55) (.loc 56)⟩,
  ⟨none, none, .pick (.loc 52) (.k (.bool true)) (.loc 57)⟩]
def s77F : List ROp := [
  ⟨none, none, .mv (.var 3)⟩,
  ⟨none, none, .faddr 7 (.var 6)⟩,
  ⟨none, none, .iaddr (some 2) 1 (.loc 61) (.k (.int .i64 0))⟩,
  ⟨none, none, .load false 1 (.loc 62)⟩,
  ⟨none, none, .call .pure (.k (.fn 97 [] [])) [(.loc 60), (.loc 63)]⟩,
  ⟨none, none, .mv (.loc 64)⟩,
  ⟨none, some (65, false), .mv (.var 3)⟩,
  ⟨none, some (65, false), .faddr 7 (.var 6)⟩,
  ⟨none, some (65, false), .iaddr (some 2) 1 (.loc 67) (.k (.int .i64 1))⟩,
  ⟨none, some (65, false), .load false 1 (.loc 68)⟩,
  ⟨none, some (65, false), .call .pure (.k (.fn 97 [] [])) [(.loc 66), (.loc 69)]⟩,
  ⟨none, none, .pick (.loc 65) (.k (.bool true)) (.loc 70)⟩,
  ⟨none, none, .mv (.loc 71)⟩,
  ⟨none, some (72, false), .faddr 7 (.var 6)⟩,
  ⟨none, some (72, false), .iaddr (some 2) 1 (.loc 73) (.k (.int .i64 0))⟩,
  ⟨none, some (72, false), .load false 1 (.loc 74)⟩,
  ⟨none, some (72, false), .faddr 7 (.var 6)⟩,
  ⟨none, some (72, false), .iaddr (some 2) 1 (.loc 76) (.k (.int .i64 1))⟩,
  ⟨none, some (72, false), .load false 1 (.loc 77)⟩,
  ⟨none, some (72, false), .bin .eql (.loc 75) (.loc 78)⟩,
  ⟨none, none, .pick (.loc 72) (.k (.bool true)) (.loc 79)⟩]
def l77 : List ROp := s77A ++ (⟨none, none, .call .pure (.k (.fn 42 [] [])) [(.loc 20), (.k (.int .i64 1))]⟩ :: (s77B ++ (⟨none, none, .call .pure (.k (.fn 42 [] [])) [(.loc 30), (.k (.int .i64 8))]⟩ :: ⟨none, none, .faddr 6 (.var 6)⟩ :: ⟨none, none, .load false 1 (.loc 32)⟩ :: ⟨none, none, .call .pure (.k (.fn 17 [] [])) [(.loc 33), (.k (.int .i64 (-1048576))), (.k (.int .i64 1048576))]⟩ :: (s77D ++ (⟨none, none, .call .pure (.k (.fn 42 [] [])) [(.loc 58), (.k (.int .i64 9))]⟩ :: (s77F ++ [⟨none, none, .call .pure (.k (.fn 42 [] [])) [(.loc 80), (.k (.int .i64 7))]⟩, ⟨none, none, .bslice false 1 [.int .i64 0] 5 [(0, (.loc 21)), (1, (.loc 31)), (2, (.loc 34)), (3, (.loc 59)), (4, (.loc 81))]⟩, ⟨none, none, .call .pure (.k (.fn 16 [] [])) [(.loc 82)]⟩, ⟨(some 4), none, .mv (.loc 83)⟩]))))))
def q77 : IR := .region l77 (some (85, []))
theorem t77 : l77.take 85 = l77 := rfl
theorem d77 : l77.drop 85 = [] := rfl
theorem eq77 : (.region [
  ⟨none, none, .faddr 1 (.var 6)⟩,
  ⟨none, none, .load false 1 (.loc 0)⟩,
  ⟨none, none, .bin .neq (.loc 1) (.k (.int .i64 0))⟩,
  ⟨none, none, .mv (.loc 2)⟩,
  ⟨none, some (3, false), .faddr 2 (.var 6)⟩,
  ⟨none, some (3, false), .load false 1 (.loc 4)⟩,
  ⟨none, some (3, false), .len .sl (.loc 5)⟩,
  ⟨none, some (3, false), .bin .gtr (.loc 6) (.k (.int .i64 0))⟩,
  ⟨none, none, .pick (.loc 3) (.k (.bool true)) (.loc 7)⟩,
  ⟨none, none, .mv (.loc 8)⟩,
  ⟨none, some (9, false), .faddr 3 (.var 6)⟩,
  ⟨none, some (9, false), .load false 1 (.loc 10)⟩,
  ⟨none, some (9, false), .len .sl (.loc 11)⟩,
  ⟨none, some (9, false), .bin .gtr (.loc 12) (.k (.int .i64 0))⟩,
  ⟨none, none, .pick (.loc 9) (.k (.bool true)) (.loc 13)⟩,
  ⟨none, none, .mv (.loc 14)⟩,
  ⟨none, some (15, false), .faddr 4 (.var 6)⟩,
  ⟨none, some (15, false), .load false 1 (.loc 16)⟩,
  ⟨none, some (15, false), .len .sl (.loc 17)⟩,
  ⟨none, some (15, false), .bin .gtr (.loc 18) (.k (.int .i64 0))⟩,
  ⟨none, none, .pick (.loc 15) (.k (.bool true)) (.loc 19)⟩,
  ⟨none, none, .call .pure (.k (.fn 42 [] [])) [(.loc 20), (.k (.int .i64 1))]⟩,
  ⟨none, none, .faddr 5 (.var 6)⟩,
  ⟨none, none, .load false 1 (.loc 22)⟩,
  ⟨none, none, .bin .lss (.loc 23) (.k (.int .i64 0))⟩,
  ⟨none, none, .mv (.loc 24)⟩,
  ⟨none, some (25, false), .faddr 5 (.var 6)⟩,
  ⟨none, some (25, false), .load false 1 (.loc 26)⟩,
  ⟨none, some (25, false), .mv (.var 7)⟩,
  ⟨none, some (25, false), .bin .geq (.loc 27) (.loc 28)⟩,
  ⟨none, none, .pick (.loc 25) (.k (.bool true)) (.loc 29)⟩,
  ⟨none, none, .call .pure (.k (.fn 42 [] [])) [(.loc 30), (.k (.int .i64 8))]⟩,
  ⟨none, none, .faddr 6 (.var 6)⟩,
  ⟨none, none, .load false 1 (.loc 32)⟩,
  ⟨none, none, .call .pure (.k (.fn 17 [] [])) [(.loc 33), (.k (.int .i64 (-1048576))), (.k (.int .i64 1048576))]⟩,
  ⟨none, none, .faddr 7 (.var 6)⟩,
  ⟨none, none, .iaddr (some 2) 1 (.loc 35) (.k (.int .i64 0))⟩,
  ⟨none, none, .load false 1 (.loc 36)⟩,
  ⟨none, none, .bin .lss (.loc 37) (.k (.int .i64 0))⟩,
  ⟨none, none, .mv (.loc 38)⟩,
  ⟨none, some (39, false), .faddr 7 (.var 6)⟩,
  ⟨none, some (39, false), .iaddr (some 2) 1 (.loc 40) (.k (.int .i64 0))⟩,
  ⟨none, some (39, false), .load false 1 (.loc 41)⟩,
  ⟨none, some (39, false), .mv (.var 2)⟩,
  ⟨none, some (39, false), .bin .geq (.loc 42) (.loc 43)⟩,
  ⟨none, none, .pick (.loc 39) (.k (.bool true)) (.loc 44)⟩,
  ⟨none, none, .mv (.loc 45)⟩,
  ⟨none, some (46, false), .faddr 7 (.var 6)⟩,
  ⟨none, some (46, false), .iaddr (some 2) 1 (.loc 47) (.k (.int .i64 1))⟩,
  ⟨none, some (46, false), .load false 1 (.loc 48)⟩,
  ⟨none, some (46, false), .bin .lss (.loc 49) (.k (.int .i64 0))⟩,
  ⟨none, none, .pick (.loc 46) (.k (.bool true)) (.loc 50)⟩,
  ⟨none, none, .mv (.loc 51)⟩,
  ⟨none, some (52, false), .faddr 7 (.var 6)⟩,
  ⟨none, some (52, false), .iaddr (some 2) 1 (.loc 53) (.k (.int .i64 1))⟩,
  ⟨none, some (52, false), .load false 1 (.loc 54)⟩,
  ⟨none, some (52, false), .mv (.var 2)⟩,
  ⟨none, some (52, false), .bin .geq (.loc 55) (.loc 56)⟩,
  ⟨none, none, .pick (.loc 52) (.k (.bool true)) (.loc 57)⟩,
  ⟨none, none, .call .pure (.k (.fn 42 [] [])) [(.loc 58), (.k (.int .i64 9))]⟩,
  ⟨none, none, .mv (.var 3)⟩,
  ⟨none, none, .faddr 7 (.var 6)⟩,
  ⟨none, none, .iaddr (some 2) 1 (.loc 61) (.k (.int .i64 0))⟩,
  ⟨none, none, .load false 1 (.loc 62)⟩,
  ⟨none, none, .call .pure (.k (.fn 97 [] [])) [(.loc 60), (.loc 63)]⟩,
  ⟨none, none, .mv (.loc 64)⟩,
  ⟨none, some (65, false), .mv (.var 3)⟩,
  ⟨none, some (65, false), .faddr 7 (.var 6)⟩,
  ⟨none, some (65, false), .iaddr (some 2) 1 (.loc 67) (.k (.int .i64 1))⟩,
  ⟨none, some (65, false), .load false 1 (.loc 68)⟩,
  ⟨none, some (65, false), .call .pure (.k (.fn 97 [] [])) [(.loc 66), (.loc 69)]⟩,
  ⟨none, none, .pick (.loc 65) (.k (.bool true)) (.loc 70)⟩,
  ⟨none, none, .mv (.loc 71)⟩,
  ⟨none, some (72, false), .faddr 7 (.var 6)⟩,
  ⟨none, some (72, false), .iaddr (some 2) 1 (.loc 73) (.k (.int .i64 0))⟩,
  ⟨none, some (72, false), .load false 1 (.loc 74)⟩,
  ⟨none, some (72, false), .faddr 7 (.var 6)⟩,
  ⟨none, some (72, false), .iaddr (some 2) 1 (.loc 76) (.k (.int .i64 1))⟩,
  ⟨none, some (72, false), .load false 1 (.loc 77)⟩,
  ⟨none, some (72, false), .bin .eql (.loc 75) (.loc 78)⟩,
  ⟨none, none, .pick (.loc 72) (.k (.bool true)) (.loc 79)⟩,
  ⟨none, none, .call .pure (.k (.fn 42 [] [])) [(.loc 80), (.k (.int .i64 7))]⟩,
  ⟨none, none, .bslice false 1 [.int .i64 0] 5 [(0, (.loc 21)), (1, (.loc 31)), (2, (.loc 34)), (3, (.loc 59)), (4, (.loc 81))]⟩,
  ⟨none, none, .call .pure (.k (.fn 16 [] [])) [(.loc 82)]⟩,
  ⟨(some 4), none, .mv (.loc 83)⟩] (some (85, []))) = q77 := rfl
def rs1 (y : Stp) : Bool := decide (¬ y.goal = 0) || (decide (0 < (y.gv.length : Int)) || (decide (0 < (y.lw.length : Int)) || decide (0 < (y.hg.length : Int))))
def rs2 (y : Stp) (c : Cl) : Bool := decide (y.va < 0) || decide ((c.sp.length : Int) ≤ y.va)
def rs3 (y : Stp) (i : Int) : Bool := decide (y.k0 < 0) || (decide (i ≤ y.k0) || (decide (y.k1 < 0) || decide (i ≤ y.k1)))
def rs4 (y : Stp) (ks : List Int) : Bool := ks.contains y.k0 || (ks.contains y.k1 || decide (y.k0 = y.k1))
def B77 (c : Cl) (y : Stp) : List AO := [.box ((enC c).map .imm), .box ((enT y).map .imm)]
def V77 (v0 v1 v4 v8 : AV) (i : Int) (kb : Bool) (ks : List Int) (c : Cl) : List AV := [v0, v1, .imm (.int .i64 i), .imm (slD kb 1 (ks.map ic)), v4, .ptr 0 0, .ptr 1 0, .imm (.int .i64 c.sp.length), v8]
theorem g77A {n : Nat} {c : Cl} {y : Stp} {i : Int} {v0 v1 v4 v8 : AV} {kb : Bool} {ks : List Int} : ∃ w0 w1 w2 w3 w4 w5 w6 w7 w8 w9 w10 w11 w12 w13 w14 w15 w16 w17 w18 w19 : AV, ∀ rest : List ROp, aQs (level E (n + 3)) (B77 c y) [] (s77A ++ rest) [] (V77 v0 v1 v4 v8 i kb ks c) [] [] = aQs (level E (n + 3)) (B77 c y) [] rest [w0, w1, w2, w3, w4, w5, w6, w7, w8, w9, w10, w11, w12, w13, w14, w15, w16, w17, w18, w19, .imm (.bool (rs1 y))] (V77 v0 v1 v4 v8 i kb ks c) [] [] := by
  unfold s77A B77 V77 rs1
  by_cases c0 : y.goal = 0
  rotate_left
  ·
    refine ⟨?_, ?_, ?_, ?_, ?_, ?_, ?_, ?_, ?_, ?_, ?_, ?_, ?_, ?_, ?_, ?_, ?_, ?_, ?_, ?_, ?h⟩
    case h =>
      intro rest
      simp only [go_sem, Nat.reduceAdd, Nat.reduceSub, Nat.reduceMul, Nat.reduceDiv, Nat.reduceMod, Nat.reduceLeDiff, Nat.reduceLT, Nat.reduceBEq, Int.reduceToNat, Int.reduceLT, Int.reduceLE, Int.reduceEq, c0, ne_eq, not_true_eq_false, not_false_eq_true, Bool.true_or, Bool.false_or]
      exact rfl
  ·
    by_cases c1 : (0 : Int) < ((y.gv.length : Nat) : Int)
    ·
      refine ⟨?_, ?_, ?_, ?_, ?_, ?_, ?_, ?_, ?_, ?_, ?_, ?_, ?_, ?_, ?_, ?_, ?_, ?_, ?_, ?_, ?h⟩
      case h =>
        intro rest
        simp only [go_sem, Nat.reduceAdd, Nat.reduceSub, Nat.reduceMul, Nat.reduceDiv, Nat.reduceMod, Nat.reduceLeDiff, Nat.reduceLT, Nat.reduceBEq, Int.reduceToNat, Int.reduceLT, Int.reduceLE, Int.reduceEq, c0, c1, ne_eq, not_true_eq_false, not_false_eq_true, Bool.true_or, Bool.false_or]
        exact rfl
    ·
      by_cases c2 : (0 : Int) < ((y.lw.length : Nat) : Int)
      ·
        refine ⟨?_, ?_, ?_, ?_, ?_, ?_, ?_, ?_, ?_, ?_, ?_, ?_, ?_, ?_, ?_, ?_, ?_, ?_, ?_, ?_, ?h⟩
        case h =>
          intro rest
          simp only [go_sem, Nat.reduceAdd, Nat.reduceSub, Nat.reduceMul, Nat.reduceDiv, Nat.reduceMod, Nat.reduceLeDiff, Nat.reduceLT, Nat.reduceBEq, Int.reduceToNat, Int.reduceLT, Int.reduceLE, Int.reduceEq, c0, c1, c2, ne_eq, not_true_eq_false, not_false_eq_true, Bool.true_or, Bool.false_or]
          exact rfl
      ·
        by_cases c3 : (0 : Int) < ((y.hg.length : Nat) : Int)
        ·
          refine ⟨?_, ?_, ?_, ?_, ?_, ?_, ?_, ?_, ?_, ?_, ?_, ?_, ?_, ?_, ?_, ?_, ?_, ?_, ?_, ?_, ?h⟩
          case h =>
            intro rest
            simp only [go_sem, Nat.reduceAdd, Nat.reduceSub, Nat.reduceMul, Nat.reduceDiv, Nat.reduceMod, Nat.reduceLeDiff, Nat.reduceLT, Nat.reduceBEq, Int.reduceToNat, Int.reduceLT, Int.reduceLE, Int.reduceEq, c0, c1, c2, c3, ne_eq, not_true_eq_false, not_false_eq_true, Bool.true_or, Bool.false_or]
            exact rfl
        ·
          refine ⟨?_, ?_, ?_, ?_, ?_, ?_, ?_, ?_, ?_, ?_, ?_, ?_, ?_, ?_, ?_, ?_, ?_, ?_, ?_, ?_, ?h⟩
          case h =>
            intro rest
            simp only [go_sem, Nat.reduceAdd, Nat.reduceSub, Nat.reduceMul, Nat.reduceDiv, Nat.reduceMod, Nat.reduceLeDiff, Nat.reduceLT, Nat.reduceBEq, Int.reduceToNat, Int.reduceLT, Int.reduceLE, Int.reduceEq, c0, c1, c2, c3, ne_eq, not_true_eq_false, not_false_eq_true, Bool.true_or, Bool.false_or]
            exact rfl
theorem g77B {n : Nat} {c : Cl} {y : Stp} {i : Int} {v0 v1 v4 v8 : AV} {kb : Bool} {ks : List Int} {x0 x1 x2 x3 x4 x5 x6 x7 x8 x9 x10 x11 x12 x13 x14 x15 x16 x17 x18 x19 x20 x21 : AV} : ∃ w22 w23 w24 w25 w26 w27 w28 w29 : AV, ∀ rest : List ROp, aQs (level E (n + 3)) (B77 c y) [] (s77B ++ rest) [x0, x1, x2, x3, x4, x5, x6, x7, x8, x9, x10, x11, x12, x13, x14, x15, x16, x17, x18, x19, x20, x21] (V77 v0 v1 v4 v8 i kb ks c) [] [] = aQs (level E (n + 3)) (B77 c y) [] rest [x0, x1, x2, x3, x4, x5, x6, x7, x8, x9, x10, x11, x12, x13, x14, x15, x16, x17, x18, x19, x20, x21, w22, w23, w24, w25, w26, w27, w28, w29, .imm (.bool (rs2 y c))] (V77 v0 v1 v4 v8 i kb ks c) [] [] := by
  unfold s77B B77 V77 rs2
  by_cases c0 : y.va < 0
  ·
    refine ⟨?_, ?_, ?_, ?_, ?_, ?_, ?_, ?_, ?h⟩
    case h =>
      intro rest
      simp only [go_sem, Nat.reduceAdd, Nat.reduceSub, Nat.reduceMul, Nat.reduceDiv, Nat.reduceMod, Nat.reduceLeDiff, Nat.reduceLT, Nat.reduceBEq, Int.reduceToNat, Int.reduceLT, Int.reduceLE, Int.reduceEq, c0, ne_eq, not_true_eq_false, not_false_eq_true, Bool.true_or, Bool.false_or]
      exact rfl
  ·
    by_cases c1 : ((c.sp.length : Nat) : Int) ≤ y.va
    ·
      refine ⟨?_, ?_, ?_, ?_, ?_, ?_, ?_, ?_, ?h⟩
      case h =>
        intro rest
        simp only [go_sem, Nat.reduceAdd, Nat.reduceSub, Nat.reduceMul, Nat.reduceDiv, Nat.reduceMod, Nat.reduceLeDiff, Nat.reduceLT, Nat.reduceBEq, Int.reduceToNat, Int.reduceLT, Int.reduceLE, Int.reduceEq, c0, c1, ne_eq, not_true_eq_false, not_false_eq_true, Bool.true_or, Bool.false_or]
        exact rfl
    ·
      refine ⟨?_, ?_, ?_, ?_, ?_, ?_, ?_, ?_, ?h⟩
      case h =>
        intro rest
        simp only [go_sem, Nat.reduceAdd, Nat.reduceSub, Nat.reduceMul, Nat.reduceDiv, Nat.reduceMod, Nat.reduceLeDiff, Nat.reduceLT, Nat.reduceBEq, Int.reduceToNat, Int.reduceLT, Int.reduceLE, Int.reduceEq, c0, c1, ne_eq, not_true_eq_false, not_false_eq_true, Bool.true_or, Bool.false_or]
        exact rfl
theorem g77D {n : Nat} {c : Cl} {y : Stp} {i : Int} {v0 v1 v4 v8 : AV} {kb : Bool} {ks : List Int} {x0 x1 x2 x3 x4 x5 x6 x7 x8 x9 x10 x11 x12 x13 x14 x15 x16 x17 x18 x19 x20 x21 x22 x23 x24 x25 x26 x27 x28 x29 x30 x31 x32 x33 x34 : AV} : ∃ w35 w36 w37 w38 w39 w40 w41 w42 w43 w44 w45 w46 w47 w48 w49 w50 w51 w52 w53 w54 w55 w56 w57 : AV, ∀ rest : List ROp, aQs (level E (n + 3)) (B77 c y) [] (s77D ++ rest) [x0, x1, x2, x3, x4, x5, x6, x7, x8, x9, x10, x11, x12, x13, x14, x15, x16, x17, x18, x19, x20, x21, x22, x23, x24, x25, x26, x27, x28, x29, x30, x31, x32, x33, x34] (V77 v0 v1 v4 v8 i kb ks c) [] [] = aQs (level E (n + 3)) (B77 c y) [] rest [x0, x1, x2, x3, x4, x5, x6, x7, x8, x9, x10, x11, x12, x13, x14, x15, x16, x17, x18, x19, x20, x21, x22, x23, x24, x25, x26, x27, x28, x29, x30, x31, x32, x33, x34, w35, w36, w37, w38, w39, w40, w41, w42, w43, w44, w45, w46, w47, w48, w49, w50, w51, w52, w53, w54, w55, w56, w57, .imm (.bool (rs3 y i))] (V77 v0 v1 v4 v8 i kb ks c) [] [] := by
  unfold s77D B77 V77 rs3
  have z0 : (0 : Int) < ((2 : Nat) : Int) := by decide
  have z1 : (1 : Int) < ((2 : Nat) : Int) := by decide
  by_cases c0 : y.k0 < 0
  ·
    refine ⟨?_, ?_, ?_, ?_, ?_, ?_, ?_, ?_, ?_, ?_, ?_, ?_, ?_, ?_, ?_, ?_, ?_, ?_, ?_, ?_, ?_, ?_, ?_, ?h⟩
    case h =>
      intro rest
      simp only [go_sem, Nat.reduceAdd, Nat.reduceSub, Nat.reduceMul, Nat.reduceDiv, Nat.reduceMod, Nat.reduceLeDiff, Nat.reduceLT, Nat.reduceBEq, Int.reduceToNat, Int.reduceLT, Int.reduceLE, Int.reduceEq, z0, z1, c0, ne_eq, not_true_eq_false, not_false_eq_true, Bool.true_or, Bool.false_or]
      exact rfl
  ·
    by_cases c1 : i ≤ y.k0
    ·
      refine ⟨?_, ?_, ?_, ?_, ?_, ?_, ?_, ?_, ?_, ?_, ?_, ?_, ?_, ?_, ?_, ?_, ?_, ?_, ?_, ?_, ?_, ?_, ?_, ?h⟩
      case h =>
        intro rest
        simp only [go_sem, Nat.reduceAdd, Nat.reduceSub, Nat.reduceMul, Nat.reduceDiv, Nat.reduceMod, Nat.reduceLeDiff, Nat.reduceLT, Nat.reduceBEq, Int.reduceToNat, Int.reduceLT, Int.reduceLE, Int.reduceEq, z0, z1, c0, c1, ne_eq, not_true_eq_false, not_false_eq_true, Bool.true_or, Bool.false_or]
        exact rfl
    ·
      by_cases c2 : y.k1 < 0
      ·
        refine ⟨?_, ?_, ?_, ?_, ?_, ?_, ?_, ?_, ?_, ?_, ?_, ?_, ?_, ?_, ?_, ?_, ?_, ?_, ?_, ?_, ?_, ?_, ?_, ?h⟩
        case h =>
          intro rest
          simp only [go_sem, Nat.reduceAdd, Nat.reduceSub, Nat.reduceMul, Nat.reduceDiv, Nat.reduceMod, Nat.reduceLeDiff, Nat.reduceLT, Nat.reduceBEq, Int.reduceToNat, Int.reduceLT, Int.reduceLE, Int.reduceEq, z0, z1, c0, c1, c2, ne_eq, not_true_eq_false, not_false_eq_true, Bool.true_or, Bool.false_or]
          exact rfl
      ·
        by_cases c3 : i ≤ y.k1
        ·
          refine ⟨?_, ?_, ?_, ?_, ?_, ?_, ?_, ?_, ?_, ?_, ?_, ?_, ?_, ?_, ?_, ?_, ?_, ?_, ?_, ?_, ?_, ?_, ?_, ?h⟩
          case h =>
            intro rest
            simp only [go_sem, Nat.reduceAdd, Nat.reduceSub, Nat.reduceMul, Nat.reduceDiv, Nat.reduceMod, Nat.reduceLeDiff, Nat.reduceLT, Nat.reduceBEq, Int.reduceToNat, Int.reduceLT, Int.reduceLE, Int.reduceEq, z0, z1, c0, c1, c2, c3, ne_eq, not_true_eq_false, not_false_eq_true, Bool.true_or, Bool.false_or]
            exact rfl
        ·
          refine ⟨?_, ?_, ?_, ?_, ?_, ?_, ?_, ?_, ?_, ?_, ?_, ?_, ?_, ?_, ?_, ?_, ?_, ?_, ?_, ?_, ?_, ?_, ?_, ?h⟩
          case h =>
            intro rest
            simp only [go_sem, Nat.reduceAdd, Nat.reduceSub, Nat.reduceMul, Nat.reduceDiv, Nat.reduceMod, Nat.reduceLeDiff, Nat.reduceLT, Nat.reduceBEq, Int.reduceToNat, Int.reduceLT, Int.reduceLE, Int.reduceEq, z0, z1, c0, c1, c2, c3, ne_eq, not_true_eq_false, not_false_eq_true, Bool.true_or, Bool.false_or]
            exact rfl
theorem g77F {n : Nat} {c : Cl} {y : Stp} {i : Int} {v0 v1 v4 v8 : AV} {kb : Bool} {ks : List Int} (hk : ks.length < 1000000000) {x0 x1 x2 x3 x4 x5 x6 x7 x8 x9 x10 x11 x12 x13 x14 x15 x16 x17 x18 x19 x20 x21 x22 x23 x24 x25 x26 x27 x28 x29 x30 x31 x32 x33 x34 x35 x36 x37 x38 x39 x40 x41 x42 x43 x44 x45 x46 x47 x48 x49 x50 x51 x52 x53 x54 x55 x56 x57 x58 x59 : AV} : ∃ w60 w61 w62 w63 w64 w65 w66 w67 w68 w69 w70 w71 w72 w73 w74 w75 w76 w77 w78 w79 : AV, ∀ rest : List ROp, aQs (level E (n + 3)) (B77 c y) [] (s77F ++ rest) [x0, x1, x2, x3, x4, x5, x6, x7, x8, x9, x10, x11, x12, x13, x14, x15, x16, x17, x18, x19, x20, x21, x22, x23, x24, x25, x26, x27, x28, x29, x30, x31, x32, x33, x34, x35, x36, x37, x38, x39, x40, x41, x42, x43, x44, x45, x46, x47, x48, x49, x50, x51, x52, x53, x54, x55, x56, x57, x58, x59] (V77 v0 v1 v4 v8 i kb ks c) [] [] = aQs (level E (n + 3)) (B77 c y) [] rest [x0, x1, x2, x3, x4, x5, x6, x7, x8, x9, x10, x11, x12, x13, x14, x15, x16, x17, x18, x19, x20, x21, x22, x23, x24, x25, x26, x27, x28, x29, x30, x31, x32, x33, x34, x35, x36, x37, x38, x39, x40, x41, x42, x43, x44, x45, x46, x47, x48, x49, x50, x51, x52, x53, x54, x55, x56, x57, x58, x59, w60, w61, w62, w63, w64, w65, w66, w67, w68, w69, w70, w71, w72, w73, w74, w75, w76, w77, w78, w79, .imm (.bool (rs4 y ks))] (V77 v0 v1 v4 v8 i kb ks c) [] [] := by
  unfold s77F B77 V77 rs4
  have h0 := ok97 (n + 2) kb ks y.k0 hk
  have h1 := ok97 (n + 2) kb ks y.k1 hk
  have z0 : (0 : Int) < ((2 : Nat) : Int) := by decide
  have z1 : (1 : Int) < ((2 : Nat) : Int) := by decide
  cases c0 : ks.contains y.k0 <;> rw [c0] at h0
  rotate_left
  ·
    refine ⟨?_, ?_, ?_, ?_, ?_, ?_, ?_, ?_, ?_, ?_, ?_, ?_, ?_, ?_, ?_, ?_, ?_, ?_, ?_, ?_, ?h⟩
    case h =>
      intro rest
      simp only [go_sem, Nat.reduceAdd, Nat.reduceSub, Nat.reduceMul, Nat.reduceDiv, Nat.reduceMod, Nat.reduceLeDiff, Nat.reduceLT, Nat.reduceBEq, Int.reduceToNat, Int.reduceLT, Int.reduceLE, Int.reduceEq, z0, z1, h0, ne_eq, not_true_eq_false, not_false_eq_true, Bool.true_or, Bool.false_or]
      exact rfl
  · cases c1 : ks.contains y.k1 <;> rw [c1] at h1
    rotate_left
    ·
      refine ⟨?_, ?_, ?_, ?_, ?_, ?_, ?_, ?_, ?_, ?_, ?_, ?_, ?_, ?_, ?_, ?_, ?_, ?_, ?_, ?_, ?h⟩
      case h =>
        intro rest
        simp only [go_sem, Nat.reduceAdd, Nat.reduceSub, Nat.reduceMul, Nat.reduceDiv, Nat.reduceMod, Nat.reduceLeDiff, Nat.reduceLT, Nat.reduceBEq, Int.reduceToNat, Int.reduceLT, Int.reduceLE, Int.reduceEq, z0, z1, h0, h1, ne_eq, not_true_eq_false, not_false_eq_true, Bool.true_or, Bool.false_or]
        exact rfl
    · by_cases c2 : y.k0 = y.k1
      ·
        refine ⟨?_, ?_, ?_, ?_, ?_, ?_, ?_, ?_, ?_, ?_, ?_, ?_, ?_, ?_, ?_, ?_, ?_, ?_, ?_, ?_, ?h⟩
        case h =>
          intro rest
          simp only [go_sem, Nat.reduceAdd, Nat.reduceSub, Nat.reduceMul, Nat.reduceDiv, Nat.reduceMod, Nat.reduceLeDiff, Nat.reduceLT, Nat.reduceBEq, Int.reduceToNat, Int.reduceLT, Int.reduceLE, Int.reduceEq, z0, z1, h0, h1, c2, ne_eq, not_true_eq_false, not_false_eq_true, Bool.true_or, Bool.false_or]
          exact rfl
      ·
        refine ⟨?_, ?_, ?_, ?_, ?_, ?_, ?_, ?_, ?_, ?_, ?_, ?_, ?_, ?_, ?_, ?_, ?_, ?_, ?_, ?_, ?h⟩
        case h =>
          intro rest
          simp only [go_sem, Nat.reduceAdd, Nat.reduceSub, Nat.reduceMul, Nat.reduceDiv, Nat.reduceMod, Nat.reduceLeDiff, Nat.reduceLT, Nat.reduceBEq, Int.reduceToNat, Int.reduceLT, Int.reduceLE, Int.reduceEq, z0, z1, h0, h1, c2, ne_eq, not_true_eq_false, not_false_eq_true, Bool.true_or, Bool.false_or]
          exact rfl
def rsE (y : Stp) (c : Cl) (i : Int) (ks : List Int) : Int := fnz [if rs1 y then 1 else 0, if rs2 y c then 8 else 0, ckR y.bo (-1048576) 1048576, if rs3 y i then 9 else 0, if rs4 y ks then 7 else 0]
theorem r77 {n : Nat} {cx : Cx} {c : Cl} {y : Stp} {i : Int} {v0 v1 v4 v8 : AV} {kb : Bool} {ks : List Int} (hk : ks.length < 1000000000) :
    aCode (level E (n + 3)) cx (.region [
  ⟨none, none, .faddr 1 (.var 6)⟩,
  ⟨none, none, .load false 1 (.loc 0)⟩,
  ⟨none, none, .bin .neq (.loc 1) (.k (.int .i64 0))⟩,
  ⟨none, none, .mv (.loc 2)⟩,
  ⟨none, some (3, false), .faddr 2 (.var 6)⟩,
  ⟨none, some (3, false), .load false 1 (.loc 4)⟩,
  ⟨none, some (3, false), .len .sl (.loc 5)⟩,
  ⟨none, some (3, false), .bin .gtr (.loc 6) (.k (.int .i64 0))⟩,
  ⟨none, none, .pick (.loc 3) (.k (.bool true)) (.loc 7)⟩,
  ⟨none, none, .mv (.loc 8)⟩,
  ⟨none, some (9, false), .faddr 3 (.var 6)⟩,
  ⟨none, some (9, false), .load false 1 (.loc 10)⟩,
  ⟨none, some (9, false), .len .sl (.loc 11)⟩,
  ⟨none, some (9, false), .bin .gtr (.loc 12) (.k (.int .i64 0))⟩,
  ⟨none, none, .pick (.loc 9) (.k (.bool true)) (.loc 13)⟩,
  ⟨none, none, .mv (.loc 14)⟩,
  ⟨none, some (15, false), .faddr 4 (.var 6)⟩,
  ⟨none, some (15, false), .load false 1 (.loc 16)⟩,
  ⟨none, some (15, false), .len .sl (.loc 17)⟩,
  ⟨none, some (15, false), .bin .gtr (.loc 18) (.k (.int .i64 0))⟩,
  ⟨none, none, .pick (.loc 15) (.k (.bool true)) (.loc 19)⟩,
  ⟨none, none, .call .pure (.k (.fn 42 [] [])) [(.loc 20), (.k (.int .i64 1))]⟩,
  ⟨none, none, .faddr 5 (.var 6)⟩,
  ⟨none, none, .load false 1 (.loc 22)⟩,
  ⟨none, none, .bin .lss (.loc 23) (.k (.int .i64 0))⟩,
  ⟨none, none, .mv (.loc 24)⟩,
  ⟨none, some (25, false), .faddr 5 (.var 6)⟩,
  ⟨none, some (25, false), .load false 1 (.loc 26)⟩,
  ⟨none, some (25, false), .mv (.var 7)⟩,
  ⟨none, some (25, false), .bin .geq (.loc 27) (.loc 28)⟩,
  ⟨none, none, .pick (.loc 25) (.k (.bool true)) (.loc 29)⟩,
  ⟨none, none, .call .pure (.k (.fn 42 [] [])) [(.loc 30), (.k (.int .i64 8))]⟩,
  ⟨none, none, .faddr 6 (.var 6)⟩,
  ⟨none, none, .load false 1 (.loc 32)⟩,
  ⟨none, none, .call .pure (.k (.fn 17 [] [])) [(.loc 33), (.k (.int .i64 (-1048576))), (.k (.int .i64 1048576))]⟩,
  ⟨none, none, .faddr 7 (.var 6)⟩,
  ⟨none, none, .iaddr (some 2) 1 (.loc 35) (.k (.int .i64 0))⟩,
  ⟨none, none, .load false 1 (.loc 36)⟩,
  ⟨none, none, .bin .lss (.loc 37) (.k (.int .i64 0))⟩,
  ⟨none, none, .mv (.loc 38)⟩,
  ⟨none, some (39, false), .faddr 7 (.var 6)⟩,
  ⟨none, some (39, false), .iaddr (some 2) 1 (.loc 40) (.k (.int .i64 0))⟩,
  ⟨none, some (39, false), .load false 1 (.loc 41)⟩,
  ⟨none, some (39, false), .mv (.var 2)⟩,
  ⟨none, some (39, false), .bin .geq (.loc 42) (.loc 43)⟩,
  ⟨none, none, .pick (.loc 39) (.k (.bool true)) (.loc 44)⟩,
  ⟨none, none, .mv (.loc 45)⟩,
  ⟨none, some (46, false), .faddr 7 (.var 6)⟩,
  ⟨none, some (46, false), .iaddr (some 2) 1 (.loc 47) (.k (.int .i64 1))⟩,
  ⟨none, some (46, false), .load false 1 (.loc 48)⟩,
  ⟨none, some (46, false), .bin .lss (.loc 49) (.k (.int .i64 0))⟩,
  ⟨none, none, .pick (.loc 46) (.k (.bool true)) (.loc 50)⟩,
  ⟨none, none, .mv (.loc 51)⟩,
  ⟨none, some (52, false), .faddr 7 (.var 6)⟩,
  ⟨none, some (52, false), .iaddr (some 2) 1 (.loc 53) (.k (.int .i64 1))⟩,
  ⟨none, some (52, false), .load false 1 (.loc 54)⟩,
  ⟨none, some (52, false), .mv (.var 2)⟩,
  ⟨none, some (52, false), .bin .geq (.loc 55) (.loc 56)⟩,
  ⟨none, none, .pick (.loc 52) (.k (.bool true)) (.loc 57)⟩,
  ⟨none, none, .call .pure (.k (.fn 42 [] [])) [(.loc 58), (.k (.int .i64 9))]⟩,
  ⟨none, none, .mv (.var 3)⟩,
  ⟨none, none, .faddr 7 (.var 6)⟩,
  ⟨none, none, .iaddr (some 2) 1 (.loc 61) (.k (.int .i64 0))⟩,
  ⟨none, none, .load false 1 (.loc 62)⟩,
  ⟨none, none, .call .pure (.k (.fn 97 [] [])) [(.loc 60), (.loc 63)]⟩,
  ⟨none, none, .mv (.loc 64)⟩,
  ⟨none, some (65, false), .mv (.var 3)⟩,
  ⟨none, some (65, false), .faddr 7 (.var 6)⟩,
  ⟨none, some (65, false), .iaddr (some 2) 1 (.loc 67) (.k (.int .i64 1))⟩,
  ⟨none, some (65, false), .load false 1 (.loc 68)⟩,
  ⟨none, some (65, false), .call .pure (.k (.fn 97 [] [])) [(.loc 66), (.loc 69)]⟩,
  ⟨none, none, .pick (.loc 65) (.k (.bool true)) (.loc 70)⟩,
  ⟨none, none, .mv (.loc 71)⟩,
  ⟨none, some (72, false), .faddr 7 (.var 6)⟩,
  ⟨none, some (72, false), .iaddr (some 2) 1 (.loc 73) (.k (.int .i64 0))⟩,
  ⟨none, some (72, false), .load false 1 (.loc 74)⟩,
  ⟨none, some (72, false), .faddr 7 (.var 6)⟩,
  ⟨none, some (72, false), .iaddr (some 2) 1 (.loc 76) (.k (.int .i64 1))⟩,
  ⟨none, some (72, false), .load false 1 (.loc 77)⟩,
  ⟨none, some (72, false), .bin .eql (.loc 75) (.loc 78)⟩,
  ⟨none, none, .pick (.loc 72) (.k (.bool true)) (.loc 79)⟩,
  ⟨none, none, .call .pure (.k (.fn 42 [] [])) [(.loc 80), (.k (.int .i64 7))]⟩,
  ⟨none, none, .bslice false 1 [.int .i64 0] 5 [(0, (.loc 21)), (1, (.loc 31)), (2, (.loc 34)), (3, (.loc 59)), (4, (.loc 81))]⟩,
  ⟨none, none, .call .pure (.k (.fn 16 [] [])) [(.loc 82)]⟩,
  ⟨(some 4), none, .mv (.loc 83)⟩] (some (85, []))) ⟨V77 v0 v1 v4 v8 i kb ks c, B77 c y, none⟩ = some (.normal, ⟨[v0, v1, .imm (.int .i64 i), .imm (slD kb 1 (ks.map ic)), .imm (.int .i64 (rsE y c i ks)), .ptr 0 0, .ptr 1 0, .imm (.int .i64 c.sp.length), v8], B77 c y, none⟩) := by
  have a1 := ok42 (n + 2) (rs1 y) 1
  have a2 := ok42 (n + 2) (rs2 y c) 8
  have a3 := ok17 (n + 1) y.bo (-1048576) 1048576
  have a4 := ok42 (n + 2) (rs3 y i) 9
  have a5 := ok42 (n + 2) (rs4 y ks) 7
  have a6 := ok16_5 (n + 2) (if rs1 y then 1 else 0) (if rs2 y c then 8 else 0) (ckR y.bo (-1048576) 1048576) (if rs3 y i then 9 else 0) (if rs4 y ks then 7 else 0)
  obtain ⟨w0, w1, w2, w3, w4, w5, w6, w7, w8, w9, w10, w11, w12, w13, w14, w15, w16, w17, w18, w19, hA⟩ := @g77A n c y i v0 v1 v4 v8 kb ks
  obtain ⟨w22, w23, w24, w25, w26, w27, w28, w29, hB⟩ := @g77B n c y i v0 v1 v4 v8 kb ks (w0) (w1) (w2) (w3) (w4) (w5) (w6) (w7) (w8) (w9) (w10) (w11) (w12) (w13) (w14) (w15) (w16) (w17) (w18) (w19) (.imm (.bool (rs1 y))) (.imm (.int .i64 (if rs1 y then 1 else 0)))
  obtain ⟨w35, w36, w37, w38, w39, w40, w41, w42, w43, w44, w45, w46, w47, w48, w49, w50, w51, w52, w53, w54, w55, w56, w57, hD⟩ := @g77D n c y i v0 v1 v4 v8 kb ks (w0) (w1) (w2) (w3) (w4) (w5) (w6) (w7) (w8) (w9) (w10) (w11) (w12) (w13) (w14) (w15) (w16) (w17) (w18) (w19) (.imm (.bool (rs1 y))) (.imm (.int .i64 (if rs1 y then 1 else 0))) (w22) (w23) (w24) (w25) (w26) (w27) (w28) (w29) (.imm (.bool (rs2 y c))) (.imm (.int .i64 (if rs2 y c then 8 else 0))) (.ptr 1 6) (.imm (.int .i64 y.bo)) (.imm (.int .i64 (ckR y.bo (-1048576) 1048576)))
  obtain ⟨w60, w61, w62, w63, w64, w65, w66, w67, w68, w69, w70, w71, w72, w73, w74, w75, w76, w77, w78, w79, hF⟩ := @g77F n c y i v0 v1 v4 v8 kb ks hk (w0) (w1) (w2) (w3) (w4) (w5) (w6) (w7) (w8) (w9) (w10) (w11) (w12) (w13) (w14) (w15) (w16) (w17) (w18) (w19) (.imm (.bool (rs1 y))) (.imm (.int .i64 (if rs1 y then 1 else 0))) (w22) (w23) (w24) (w25) (w26) (w27) (w28) (w29) (.imm (.bool (rs2 y c))) (.imm (.int .i64 (if rs2 y c then 8 else 0))) (.ptr 1 6) (.imm (.int .i64 y.bo)) (.imm (.int .i64 (ckR y.bo (-1048576) 1048576))) (w35) (w36) (w37) (w38) (w39) (w40) (w41) (w42) (w43) (w44) (w45) (w46) (w47) (w48) (w49) (w50) (w51) (w52) (w53) (w54) (w55) (w56) (w57) (.imm (.bool (rs3 y i))) (.imm (.int .i64 (if rs3 y i then 9 else 0)))
  simp only [B77, V77] at hA hB hD hF ⊢
  simp only [go_sem, Nat.reduceAdd, Nat.reduceSub, Nat.reduceMul, Nat.reduceDiv, Nat.reduceMod, Nat.reduceLeDiff, Nat.reduceLT, Nat.reduceBEq, Int.reduceToNat, Int.reduceLT, Int.reduceLE, Int.reduceEq] at hA hB hD hF
  rw [eq77]
  unfold q77 rsE
  rw [ac_draw, t77, d77]
  unfold l77
  simp only [go_sem, Nat.reduceAdd, Nat.reduceSub, Nat.reduceMul, Nat.reduceDiv, Nat.reduceMod, Nat.reduceLeDiff, Nat.reduceLT, Nat.reduceBEq, Int.reduceToNat, Int.reduceLT, Int.reduceLE, Int.reduceEq, hA, hB, hD, hF, a1, a2, a3, a4, a5, a6]
  trace_state
end Go.Vm.P12

/- Chapter 12, the laws: the form of a proof in the reference. -/
set_option maxRecDepth 100000
set_option maxHeartbeats 4000000
namespace Go.Vm.P12
open Go Go.Vm
@[go_sem high] theorem r77_s {n : Nat} {cx : Cx} {c : Cl} {y : Stp} {i : Int} {v0 v1 v4 v8 : AV} {b kb : Bool} {ks : List Int} (hk : ks.length < 1000000000) :
    aCode (level E (n + 3)) cx (.region [
  ⟨none, none, .faddr 1 (.var 6)⟩,
  ⟨none, none, .load false 1 (.loc 0)⟩,
  ⟨none, none, .bin .neq (.loc 1) (.k (.int .i64 0))⟩,
  ⟨none, none, .mv (.loc 2)⟩,
  ⟨none, some (3, false), .faddr 2 (.var 6)⟩,
  ⟨none, some (3, false), .load false 1 (.loc 4)⟩,
  ⟨none, some (3, false), .len .sl (.loc 5)⟩,
  ⟨none, some (3, false), .bin .gtr (.loc 6) (.k (.int .i64 0))⟩,
  ⟨none, none, .pick (.loc 3) (.k (.bool true)) (.loc 7)⟩,
  ⟨none, none, .mv (.loc 8)⟩,
  ⟨none, some (9, false), .faddr 3 (.var 6)⟩,
  ⟨none, some (9, false), .load false 1 (.loc 10)⟩,
  ⟨none, some (9, false), .len .sl (.loc 11)⟩,
  ⟨none, some (9, false), .bin .gtr (.loc 12) (.k (.int .i64 0))⟩,
  ⟨none, none, .pick (.loc 9) (.k (.bool true)) (.loc 13)⟩,
  ⟨none, none, .mv (.loc 14)⟩,
  ⟨none, some (15, false), .faddr 4 (.var 6)⟩,
  ⟨none, some (15, false), .load false 1 (.loc 16)⟩,
  ⟨none, some (15, false), .len .sl (.loc 17)⟩,
  ⟨none, some (15, false), .bin .gtr (.loc 18) (.k (.int .i64 0))⟩,
  ⟨none, none, .pick (.loc 15) (.k (.bool true)) (.loc 19)⟩,
  ⟨none, none, .call .pure (.k (.fn 42 [] [])) [(.loc 20), (.k (.int .i64 1))]⟩,
  ⟨none, none, .faddr 5 (.var 6)⟩,
  ⟨none, none, .load false 1 (.loc 22)⟩,
  ⟨none, none, .bin .lss (.loc 23) (.k (.int .i64 0))⟩,
  ⟨none, none, .mv (.loc 24)⟩,
  ⟨none, some (25, false), .faddr 5 (.var 6)⟩,
  ⟨none, some (25, false), .load false 1 (.loc 26)⟩,
  ⟨none, some (25, false), .mv (.var 7)⟩,
  ⟨none, some (25, false), .bin .geq (.loc 27) (.loc 28)⟩,
  ⟨none, none, .pick (.loc 25) (.k (.bool true)) (.loc 29)⟩,
  ⟨none, none, .call .pure (.k (.fn 42 [] [])) [(.loc 30), (.k (.int .i64 8))]⟩,
  ⟨none, none, .faddr 6 (.var 6)⟩,
  ⟨none, none, .load false 1 (.loc 32)⟩,
  ⟨none, none, .call .pure (.k (.fn 17 [] [])) [(.loc 33), (.k (.int .i64 (-1048576))), (.k (.int .i64 1048576))]⟩,
  ⟨none, none, .faddr 7 (.var 6)⟩,
  ⟨none, none, .iaddr (some 2) 1 (.loc 35) (.k (.int .i64 0))⟩,
  ⟨none, none, .load false 1 (.loc 36)⟩,
  ⟨none, none, .bin .lss (.loc 37) (.k (.int .i64 0))⟩,
  ⟨none, none, .mv (.loc 38)⟩,
  ⟨none, some (39, false), .faddr 7 (.var 6)⟩,
  ⟨none, some (39, false), .iaddr (some 2) 1 (.loc 40) (.k (.int .i64 0))⟩,
  ⟨none, some (39, false), .load false 1 (.loc 41)⟩,
  ⟨none, some (39, false), .mv (.var 2)⟩,
  ⟨none, some (39, false), .bin .geq (.loc 42) (.loc 43)⟩,
  ⟨none, none, .pick (.loc 39) (.k (.bool true)) (.loc 44)⟩,
  ⟨none, none, .mv (.loc 45)⟩,
  ⟨none, some (46, false), .faddr 7 (.var 6)⟩,
  ⟨none, some (46, false), .iaddr (some 2) 1 (.loc 47) (.k (.int .i64 1))⟩,
  ⟨none, some (46, false), .load false 1 (.loc 48)⟩,
  ⟨none, some (46, false), .bin .lss (.loc 49) (.k (.int .i64 0))⟩,
  ⟨none, none, .pick (.loc 46) (.k (.bool true)) (.loc 50)⟩,
  ⟨none, none, .mv (.loc 51)⟩,
  ⟨none, some (52, false), .faddr 7 (.var 6)⟩,
  ⟨none, some (52, false), .iaddr (some 2) 1 (.loc 53) (.k (.int .i64 1))⟩,
  ⟨none, some (52, false), .load false 1 (.loc 54)⟩,
  ⟨none, some (52, false), .mv (.var 2)⟩,
  ⟨none, some (52, false), .bin .geq (.loc 55) (.loc 56)⟩,
  ⟨none, none, .pick (.loc 52) (.k (.bool true)) (.loc 57)⟩,
  ⟨none, none, .call .pure (.k (.fn 42 [] [])) [(.loc 58), (.k (.int .i64 9))]⟩,
  ⟨none, none, .mv (.var 3)⟩,
  ⟨none, none, .faddr 7 (.var 6)⟩,
  ⟨none, none, .iaddr (some 2) 1 (.loc 61) (.k (.int .i64 0))⟩,
  ⟨none, none, .load false 1 (.loc 62)⟩,
  ⟨none, none, .call .pure (.k (.fn 97 [] [])) [(.loc 60), (.loc 63)]⟩,
  ⟨none, none, .mv (.loc 64)⟩,
  ⟨none, some (65, false), .mv (.var 3)⟩,
  ⟨none, some (65, false), .faddr 7 (.var 6)⟩,
  ⟨none, some (65, false), .iaddr (some 2) 1 (.loc 67) (.k (.int .i64 1))⟩,
  ⟨none, some (65, false), .load false 1 (.loc 68)⟩,
  ⟨none, some (65, false), .call .pure (.k (.fn 97 [] [])) [(.loc 66), (.loc 69)]⟩,
  ⟨none, none, .pick (.loc 65) (.k (.bool true)) (.loc 70)⟩,
  ⟨none, none, .mv (.loc 71)⟩,
  ⟨none, some (72, false), .faddr 7 (.var 6)⟩,
  ⟨none, some (72, false), .iaddr (some 2) 1 (.loc 73) (.k (.int .i64 0))⟩,
  ⟨none, some (72, false), .load false 1 (.loc 74)⟩,
  ⟨none, some (72, false), .faddr 7 (.var 6)⟩,
  ⟨none, some (72, false), .iaddr (some 2) 1 (.loc 76) (.k (.int .i64 1))⟩,
  ⟨none, some (72, false), .load false 1 (.loc 77)⟩,
  ⟨none, some (72, false), .bin .eql (.loc 75) (.loc 78)⟩,
  ⟨none, none, .pick (.loc 72) (.k (.bool true)) (.loc 79)⟩,
  ⟨none, none, .call .pure (.k (.fn 42 [] [])) [(.loc 80), (.k (.int .i64 7))]⟩,
  ⟨none, none, .bslice false 1 [.int .i64 0] 5 [(0, (.loc 21)), (1, (.loc 31)), (2, (.loc 34)), (3, (.loc 59)), (4, (.loc 81))]⟩,
  ⟨none, none, .call .pure (.k (.fn 16 [] [])) [(.loc 82)]⟩,
  ⟨(some 4), none, .mv (.loc 83)⟩] (some (85, []))) ⟨[v0, v1, .imm (.int .i64 i), .imm (slD kb 1 (ks.map ic)), v4, .ptr 0 0, .ptr 1 0, .imm (.int .i64 c.sp.length), v8],
      [.box [.imm (slD c.sn 2 (c.sp.map enS)), .imm (slD c.gn 2 (c.gv.map enL)), .imm (slD c.go.nl 1 (c.go.co.map ic)), .imm (.int .i64 c.go.c)], .box [.imm (.bool b), .imm (.int .i64 y.goal), .imm (slD y.gn 1 (y.gv.map ic)), .imm (slD y.ln 1 (y.lw.map ic)), .imm (slD y.hn 1 (y.hg.map ic)), .imm (.int .i64 y.va), .imm (.int .i64 y.bo), .imm (.int .i64 y.k0), .imm (.int .i64 y.k1)]], none⟩ =
      some (.normal, ⟨[v0, v1, .imm (.int .i64 i), .imm (slD kb 1 (ks.map ic)), .imm (.int .i64 (rsE y c i ks)), .ptr 0 0, .ptr 1 0, .imm (.int .i64 c.sp.length), v8],
      [.box [.imm (slD c.sn 2 (c.sp.map enS)), .imm (slD c.gn 2 (c.gv.map enL)), .imm (slD c.go.nl 1 (c.go.co.map ic)), .imm (.int .i64 c.go.c)], .box [.imm (.bool b), .imm (.int .i64 y.goal), .imm (slD y.gn 1 (y.gv.map ic)), .imm (slD y.ln 1 (y.lw.map ic)), .imm (slD y.hn 1 (y.hg.map ic)), .imm (.int .i64 y.va), .imm (.int .i64 y.bo), .imm (.int .i64 y.k0), .imm (.int .i64 y.k1)]], none⟩) := r77 (y := { y with leaf := b }) hk
def rlE (y : Stp) (c : Cl) : Int := fnz [if lf1 y c then 2 else 0, ckR y.goal 0 1000, rng 1000 y.gv, rng 34359738368 y.lw, rng 34359738368 y.hg, if lf3 y then 1 else 0]
@[go_sem high] theorem r77_l {n : Nat} {cx : Cx} {c : Cl} {y : Stp} {b0 : D} {v0 v1 v2 v3 v4 v8 : AV} (hy : y.Fits) :
    aCode (level E (n + 3)) cx (.region [
   ⟨none, none, .faddr 2 (.var 6)⟩,
   ⟨none, none, .load false 1 (.loc 0)⟩,
   ⟨none, none, .len .sl (.loc 1)⟩,
   ⟨none, none, .faddr 1 (.var 5)⟩,
   ⟨none, none, .load false 1 (.loc 3)⟩,
   ⟨none, none, .len .sl (.loc 4)⟩,
   ⟨none, none, .bin .neq (.loc 2) (.loc 5)⟩,
   ⟨none, none, .mv (.loc 6)⟩,
   ⟨none, some (7, false), .faddr 3 (.var 6)⟩,
   ⟨none, some (7, false), .load false 1 (.loc 8)⟩,
   ⟨none, some (7, false), .len .sl (.loc 9)⟩,
   ⟨none, some (7, false), .mv (.var 7)⟩,
   ⟨none, some (7, false), .bin .neq (.loc 10) (.loc 11)⟩,
   ⟨none, none, .pick (.loc 7) (.k (.bool true)) (.loc 12)⟩,
   ⟨none, none, .mv (.loc 13)⟩,
   ⟨none, some (14, false), .faddr 4 (.var 6)⟩,
   ⟨none, some (14, false), .load false 1 (.loc 15)⟩,
   ⟨none, some (14, false), .len .sl (.loc 16)⟩,
   ⟨none, some (14, false), .mv (.var 7)⟩,
   ⟨none, some (14, false), .bin .neq (.loc 17) (.loc 18)⟩,
   ⟨none, none, .pick (.loc 14) (.k (.bool true)) (.loc 19)⟩,
   ⟨none, none, .call .pure (.k (.fn 42 [] [])) [(.loc 20), (.k (.int .i64 2))]⟩,
   ⟨none, none, .faddr 1 (.var 6)⟩,
   ⟨none, none, .load false 1 (.loc 22)⟩,
   ⟨none, none, .call .pure (.k (.fn 17 [] [])) [(.loc 23), (.k (.int .i64 0)), (.k (.int .i64 1000))]⟩,
   ⟨none, none, .faddr 2 (.var 6)⟩,
   ⟨none, none, .load false 1 (.loc 25)⟩,
   ⟨none, none, .call .pure (.k (.fn 96 [] [])) [(.loc 26), (.k (.int .i64 1000))]⟩,
   ⟨none, none, .faddr 3 (.var 6)⟩,
   ⟨none, none, .load false 1 (.loc 28)⟩,
   ⟨none, none, .call .pure (.k (.fn 96 [] [])) [(.loc 29), (.k (.int .i64 34359738368))]⟩,
   ⟨none, none, .faddr 4 (.var 6)⟩,
   ⟨none, none, .load false 1 (.loc 31)⟩,
   ⟨none, none, .call .pure (.k (.fn 96 [] [])) [(.loc 32), (.k (.int .i64 34359738368))]⟩,
   ⟨none, none, .faddr 5 (.var 6)⟩,
   ⟨none, none, .load false 1 (.loc 34)⟩,
   ⟨none, none, .bin .neq (.loc 35) (.k (.int .i64 0))⟩,
   ⟨none, none, .mv (.loc 36)⟩,
   ⟨none, some (37, false), .faddr 6 (.var 6)⟩,
   ⟨none, some (37, false), .load false 1 (.loc 38)⟩,
   ⟨none, some (37, false), .bin .neq (.loc 39) (.k (.int .i64 0))⟩,
   ⟨none, none, .pick (.loc 37) (.k (.bool true)) (.loc 40)⟩,
   ⟨none, none, .mv (.loc 41)⟩,
   ⟨none, some (42, false), .faddr 7 (.var 6)⟩,
   ⟨none, some (42, false), .load true 2 (.loc 43)⟩,
   ⟨none, some (42, false), .build [.int .i64 0, .int .i64 0] []⟩,
   ⟨none, some (42, false), .eqs true (.agg [(0, .int), (1, .int)]) (.loc 44) (.loc 45)⟩,
   ⟨none, none, .pick (.loc 42) (.k (.bool true)) (.loc 46)⟩,
   ⟨none, none, .call .pure (.k (.fn 42 [] [])) [(.loc 47), (.k (.int .i64 1))]⟩,
   ⟨none, none, .bslice false 1 [.int .i64 0] 6 [(0, (.loc 21)), (1, (.loc 24)), (2, (.loc 27)), (3, (.loc 30)), (4, (.loc 33)), (5, (.loc 48))]⟩,
   ⟨none, none, .call .pure (.k (.fn 16 [] [])) [(.loc 49)]⟩,
   ⟨(some 4), none, .mv (.loc 50)⟩] (some (52, []))) ⟨[v0, v1, v2, v3, v4, .ptr 0 0, .ptr 1 0, .imm (.int .i64 c.sp.length), v8],
      [.box [.imm (slD c.sn 2 (c.sp.map enS)), .imm (slD c.gn 2 (c.gv.map enL)), .imm (slD c.go.nl 1 (c.go.co.map ic)), .imm (.int .i64 c.go.c)], .box [.imm b0, .imm (.int .i64 y.goal), .imm (slD y.gn 1 (y.gv.map ic)), .imm (slD y.ln 1 (y.lw.map ic)), .imm (slD y.hn 1 (y.hg.map ic)), .imm (.int .i64 y.va), .imm (.int .i64 y.bo), .imm (.int .i64 y.k0), .imm (.int .i64 y.k1)]], none⟩ =
      some (.normal, ⟨[v0, v1, v2, v3, .imm (.int .i64 (rlE y c)), .ptr 0 0, .ptr 1 0, .imm (.int .i64 c.sp.length), v8],
      [.box [.imm (slD c.sn 2 (c.sp.map enS)), .imm (slD c.gn 2 (c.gv.map enL)), .imm (slD c.go.nl 1 (c.go.co.map ic)), .imm (.int .i64 c.go.c)], .box [.imm b0, .imm (.int .i64 y.goal), .imm (slD y.gn 1 (y.gv.map ic)), .imm (slD y.ln 1 (y.lw.map ic)), .imm (slD y.hn 1 (y.hg.map ic)), .imm (.int .i64 y.va), .imm (.int .i64 y.bo), .imm (.int .i64 y.k0), .imm (.int .i64 y.k1)]], none⟩) := by
  have a1 := ok42 (n + 2) (lf1 y c) 2
  have a2 := ok17 (n + 1) y.goal 0 1000
  have a3 := ok96 n y.gn y.gv 1000 hy.gv
  have a4 := ok96 n y.ln y.lw 34359738368 hy.lw
  have a5 := ok96 n y.hn y.hg 34359738368 hy.hg
  have a6 := ok42 (n + 2) (lf3 y) 1
  have a7 := fun e1 e6 : Int => ok16_6 (n + 2) e1 (ckR y.goal 0 1000) (rng 1000 y.gv) (rng 34359738368 y.lw) (rng 34359738368 y.hg) e6
  unfold rlE
  generalize hf1 : lf1 y c = f1 at a1 ⊢
  generalize hf3 : lf3 y = f3 at a6 ⊢
  unfold lf1 at hf1
  unfold lf3 at hf3
  by_cases c1 : (y.gv.length : Int) = c.gv.length
  · by_cases c2 : (y.lw.length : Int) = c.sp.length
    · by_cases d1 : y.va = 0
      · by_cases d2 : y.bo = 0
        · simp only [c1, c2, d1, d2, not_true_eq_false, decide_false, Bool.false_or] at hf1 hf3
          simp only [go_sem, Nat.reduceAdd, Nat.reduceSub, Nat.reduceMul, Nat.reduceDiv, Nat.reduceMod, Nat.reduceLeDiff, Nat.reduceLT, Nat.reduceBEq, Int.reduceToNat, Int.reduceLT, Int.reduceLE, Int.reduceEq, c1, c2, d1, d2, ne_eq, not_true_eq_false, hf1, eq_agg2, hf3, a1, a2, a3, a4, a5, a6, a7]
        · simp only [c1, c2, d1, d2, not_true_eq_false, not_false_eq_true, decide_false, decide_true, Bool.false_or, Bool.true_or] at hf1 hf3
          subst hf3
          simp only [go_sem, Nat.reduceAdd, Nat.reduceSub, Nat.reduceMul, Nat.reduceDiv, Nat.reduceMod, Nat.reduceLeDiff, Nat.reduceLT, Nat.reduceBEq, Int.reduceToNat, Int.reduceLT, Int.reduceLE, Int.reduceEq, c1, c2, d1, d2, ne_eq, not_true_eq_false, not_false_eq_true, hf1, a1, a2, a3, a4, a5, a6, a7]
      · simp only [c1, c2, d1, not_true_eq_false, not_false_eq_true, decide_false, decide_true, Bool.false_or, Bool.true_or] at hf1 hf3
        subst hf3
        simp only [go_sem, Nat.reduceAdd, Nat.reduceSub, Nat.reduceMul, Nat.reduceDiv, Nat.reduceMod, Nat.reduceLeDiff, Nat.reduceLT, Nat.reduceBEq, Int.reduceToNat, Int.reduceLT, Int.reduceLE, Int.reduceEq, c1, c2, d1, ne_eq, not_true_eq_false, not_false_eq_true, hf1, a1, a2, a3, a4, a5, a6, a7]
    · simp only [c1, c2, not_true_eq_false, not_false_eq_true, decide_false, decide_true, Bool.false_or, Bool.true_or] at hf1
      subst hf1
      by_cases d1 : y.va = 0
      · by_cases d2 : y.bo = 0
        · simp only [d1, d2, not_true_eq_false, decide_false, Bool.false_or] at hf3
          simp only [go_sem, Nat.reduceAdd, Nat.reduceSub, Nat.reduceMul, Nat.reduceDiv, Nat.reduceMod, Nat.reduceLeDiff, Nat.reduceLT, Nat.reduceBEq, Int.reduceToNat, Int.reduceLT, Int.reduceLE, Int.reduceEq, c1, c2, d1, d2, ne_eq, not_true_eq_false, not_false_eq_true, eq_agg2, hf3, a1, a2, a3, a4, a5, a6, a7]
        · simp only [d1, d2, not_true_eq_false, not_false_eq_true, decide_false, decide_true, Bool.false_or, Bool.true_or] at hf3
          subst hf3
          simp only [go_sem, Nat.reduceAdd, Nat.reduceSub, Nat.reduceMul, Nat.reduceDiv, Nat.reduceMod, Nat.reduceLeDiff, Nat.reduceLT, Nat.reduceBEq, Int.reduceToNat, Int.reduceLT, Int.reduceLE, Int.reduceEq, c1, c2, d1, d2, ne_eq, not_true_eq_false, not_false_eq_true, a1, a2, a3, a4, a5, a6, a7]
      · simp only [d1, not_true_eq_false, not_false_eq_true, decide_false, decide_true, Bool.false_or, Bool.true_or] at hf3
        subst hf3
        simp only [go_sem, Nat.reduceAdd, Nat.reduceSub, Nat.reduceMul, Nat.reduceDiv, Nat.reduceMod, Nat.reduceLeDiff, Nat.reduceLT, Nat.reduceBEq, Int.reduceToNat, Int.reduceLT, Int.reduceLE, Int.reduceEq, c1, c2, d1, ne_eq, not_true_eq_false, not_false_eq_true, a1, a2, a3, a4, a5, a6, a7]
  · simp only [c1, not_true_eq_false, not_false_eq_true, decide_false, decide_true, Bool.false_or, Bool.true_or] at hf1
    subst hf1
    by_cases d1 : y.va = 0
    · by_cases d2 : y.bo = 0
      · simp only [d1, d2, not_true_eq_false, decide_false, Bool.false_or] at hf3
        simp only [go_sem, Nat.reduceAdd, Nat.reduceSub, Nat.reduceMul, Nat.reduceDiv, Nat.reduceMod, Nat.reduceLeDiff, Nat.reduceLT, Nat.reduceBEq, Int.reduceToNat, Int.reduceLT, Int.reduceLE, Int.reduceEq, c1, d1, d2, ne_eq, not_true_eq_false, not_false_eq_true, eq_agg2, hf3, a1, a2, a3, a4, a5, a6, a7]
      · simp only [d1, d2, not_true_eq_false, not_false_eq_true, decide_false, decide_true, Bool.false_or, Bool.true_or] at hf3
        subst hf3
        simp only [go_sem, Nat.reduceAdd, Nat.reduceSub, Nat.reduceMul, Nat.reduceDiv, Nat.reduceMod, Nat.reduceLeDiff, Nat.reduceLT, Nat.reduceBEq, Int.reduceToNat, Int.reduceLT, Int.reduceLE, Int.reduceEq, c1, d1, d2, ne_eq, not_true_eq_false, not_false_eq_true, a1, a2, a3, a4, a5, a6, a7]
    · simp only [d1, not_true_eq_false, not_false_eq_true, decide_false, decide_true, Bool.false_or, Bool.true_or] at hf3
      subst hf3
      simp only [go_sem, Nat.reduceAdd, Nat.reduceSub, Nat.reduceMul, Nat.reduceDiv, Nat.reduceMod, Nat.reduceLeDiff, Nat.reduceLT, Nat.reduceBEq, Int.reduceToNat, Int.reduceLT, Int.reduceLE, Int.reduceEq, c1, d1, ne_eq, not_true_eq_false, not_false_eq_true, a1, a2, a3, a4, a5, a6, a7]
def rStE (y : Stp) (c : Cl) (i : Int) (ks : List Int) : Int := if y.leaf then rlE y c else rsE y c i ks
theorem ok77 (n : Nat) (y : Stp) (c : Cl) (i : Int) (kb : Bool) (ks : List Int) (hy : y.Fits) (hk : ks.length < 1000000000) : callP (level E (n+4)) 77 [.agg (enC c), .agg (enT y), .int .i64 i, slD kb 1 (ks.map ic)] = some (.int .i64 (rStE y c i ks)) := by
  rw [p77]
  unfold rStE
  cases hl : y.leaf
  · simp only [go_sem, Nat.reduceAdd, Nat.reduceSub, Nat.reduceMul, Nat.reduceDiv, Nat.reduceMod, Nat.reduceLeDiff, Nat.reduceLT, Nat.reduceBEq, Int.reduceToNat, Int.reduceLT, Int.reduceLE, Int.reduceEq, sg_slD, hk, hl]
    trace_state
  · simp only [go_sem, Nat.reduceAdd, Nat.reduceSub, Nat.reduceMul, Nat.reduceDiv, Nat.reduceMod, Nat.reduceLeDiff, Nat.reduceLT, Nat.reduceBEq, Int.reduceToNat, Int.reduceLT, Int.reduceLE, Int.reduceEq, sg_slD, hy, hl]
    trace_state
end Go.Vm.P12

/- Chapter 12, the laws: the form of a proof in the reference, end; the reference's check. -/
set_option maxRecDepth 100000
set_option maxHeartbeats 4000000
namespace Go.Vm.P12
open Go Go.Vm
def rcf (c : Cl) : List Stp → Nat → List Int → Int × List Int
  | [], _, ks => (0, ks)
  | s :: r, i, ks => if rStE s c i ks = 0 then rcf c r (i + 1) (if s.leaf then ks else ks ++ [s.k0, s.k1]) else (rStE s c i ks, ks)
def x30 (b : Bool) (l : List Stp) (r : Int × List Int) : AExit × S := if r.1 = 0 then
    (.exit 0, ⟨[.junk, .junk, .junk, .junk, .ptr 0 0, .junk, vK 1 1 (r.2.map ic), .junk, .junk, .junk, .junk, .junk, .junk, .junk, .junk], [.box [.imm (slD b 9 (l.map enT))]] ++ oK 1 (r.2.map ic), none⟩)
  else (.ret, ⟨[.junk, .junk, .imm (.int .i64 r.1), .junk, .ptr 0 0, .junk, vK 1 1 (r.2.map ic), .junk, .junk, .junk, .junk, .junk, .junk, .junk, .junk], [.box [.imm (slD b 9 (l.map enT))]] ++ oK 1 (r.2.map ic), none⟩)
theorem l30 {n : Nat} {c : Cl} {b : Bool} {l : List Stp} (hl : l.length ≤ 400) (hf : ∀ s ∈ l, s.Fits) : ∀ (r : List Stp) (i : Nat) (ks : List Int), l.drop i = r → ks.length ≤ 2 * i →
    outC ⟨0, false⟩ [0, 0, 1, 0, 1, 0, 1, 0, 0, 0, 0, 0, 0, 0, 0] (rnd (aCode (level E (n + 4)) ⟨0, false⟩ b30_0) (head ⟨0, false⟩ [0, 0, 0, 1, 1, 0, 1, 1, 0, 0, 0, 0, 0, 0, 0])
      ⟨[.junk, .junk, .junk, .ptr 0 0, .ptr 1 0, .junk, vK 2 1 (ks.map ic), .imm (.int .i64 i), .junk, .junk, .junk, .junk, .junk, .junk, .junk],
       [.box ((enC c).map .imm), .box [.imm (slD b 9 (l.map enT))]] ++ oK 1 (ks.map ic), none⟩) = some (x30 b l (rcf c r i ks))
  | [], i, ks, h, hk => by
    rw [rnd_eq]
    cases ks <;> simp only [go_sem, Nat.reduceAdd, Nat.reduceSub, Nat.reduceMul, Nat.reduceDiv, Nat.reduceMod, Nat.reduceLeDiff, Nat.reduceLT, Nat.reduceBEq, Int.reduceToNat, Int.reduceLT, Int.reduceLE, Int.reduceEq, vK, oK, lt_f (drop_n h), rcf, x30]
  | s :: r, i, ks, h, hk => by
    obtain ⟨h1, h2, h3⟩ := drop_c h
    have h6 := wrpS (i := i) (by omega)
    have h77 := ok77 n s c i true ks (hf s (List.mem_of_getElem? h1)) (by omega)
    have z0 : (0 : Int) < ((2 : Nat) : Int) := by decide
    have z1 : (1 : Int) < ((2 : Nat) : Int) := by decide
    rw [rnd_eq]
    simp only [rcf]
    by_cases h0 : rStE s c i ks = 0
    · simp only [h0, if_true] at h77 ⊢
      cases hs : s.leaf
      · have IH := l30 (n := n) (c := c) (b := b) hl hf r (i + 1) (ks ++ [s.k0, s.k1]) h3 (by simp; omega)
        simp only [Bool.false_eq_true, if_false]
        cases ks with
        | nil =>
          have h5 : (0 + 1 + 1) * 9 ≤ 70368744177664 := by decide
          simp only [go_sem, Nat.reduceAdd, Nat.reduceSub, Nat.reduceMul, Nat.reduceDiv, Nat.reduceMod, Nat.reduceLeDiff, Nat.reduceLT, Nat.reduceBEq, Int.reduceToNat, Int.reduceLT, Int.reduceLE, Int.reduceEq, vK, oK] at IH
          simp only [go_sem, Nat.reduceAdd, Nat.reduceSub, Nat.reduceMul, Nat.reduceDiv, Nat.reduceMod, Nat.reduceLeDiff, Nat.reduceLT, Nat.reduceBEq, Int.reduceToNat, Int.reduceLT, Int.reduceLE, Int.reduceEq, hs, slD_nil] at h77
          simp only [go_sem, Nat.reduceAdd, Nat.reduceSub, Nat.reduceMul, Nat.reduceDiv, Nat.reduceMod, Nat.reduceLeDiff, Nat.reduceLT, Nat.reduceBEq, Int.reduceToNat, Int.reduceLT, Int.reduceLE, Int.reduceEq, vK, oK, lt_t h2, h1, h6, hs, z0, z1, h77, ne_eq, not_true_eq_false, h5]
          exact IH
        | cons k ks =>
          simp only [List.length_cons] at hk
          have h5 : (ks.length + 1 + 2) * 9 ≤ 70368744177664 := by omega
          have h5' : (ks.length + 1 + 1 + 1) * 9 ≤ 70368744177664 := by omega
          simp only [go_sem, Nat.reduceAdd, Nat.reduceSub, Nat.reduceMul, Nat.reduceDiv, Nat.reduceMod, Nat.reduceLeDiff, Nat.reduceLT, Nat.reduceBEq, Int.reduceToNat, Int.reduceLT, Int.reduceLE, Int.reduceEq, vK, oK] at IH
          simp only [go_sem, Nat.reduceAdd, Nat.reduceSub, Nat.reduceMul, Nat.reduceDiv, Nat.reduceMod, Nat.reduceLeDiff, Nat.reduceLT, Nat.reduceBEq, Int.reduceToNat, Int.reduceLT, Int.reduceLE, Int.reduceEq, hs, slD_cons] at h77
          simp only [go_sem, Nat.reduceAdd, Nat.reduceSub, Nat.reduceMul, Nat.reduceDiv, Nat.reduceMod, Nat.reduceLeDiff, Nat.reduceLT, Nat.reduceBEq, Int.reduceToNat, Int.reduceLT, Int.reduceLE, Int.reduceEq, vK, oK, lt_t h2, h1, h6, hs, z0, z1, h77, ne_eq, not_true_eq_false, h5, h5']
          exact IH
      · have IH := l30 (n := n) (c := c) (b := b) hl hf r (i + 1) ks h3 (by omega)
        simp only [if_true]
        cases ks with
        | nil =>
          simp only [go_sem, Nat.reduceAdd, Nat.reduceSub, Nat.reduceMul, Nat.reduceDiv, Nat.reduceMod, Nat.reduceLeDiff, Nat.reduceLT, Nat.reduceBEq, Int.reduceToNat, Int.reduceLT, Int.reduceLE, Int.reduceEq, vK, oK] at IH
          simp only [go_sem, Nat.reduceAdd, Nat.reduceSub, Nat.reduceMul, Nat.reduceDiv, Nat.reduceMod, Nat.reduceLeDiff, Nat.reduceLT, Nat.reduceBEq, Int.reduceToNat, Int.reduceLT, Int.reduceLE, Int.reduceEq, hs, slD_nil] at h77
          simp only [go_sem, Nat.reduceAdd, Nat.reduceSub, Nat.reduceMul, Nat.reduceDiv, Nat.reduceMod, Nat.reduceLeDiff, Nat.reduceLT, Nat.reduceBEq, Int.reduceToNat, Int.reduceLT, Int.reduceLE, Int.reduceEq, vK, oK, lt_t h2, h1, h6, hs, h77, ne_eq, not_true_eq_false]
          exact IH
        | cons k ks =>
          simp only [go_sem, Nat.reduceAdd, Nat.reduceSub, Nat.reduceMul, Nat.reduceDiv, Nat.reduceMod, Nat.reduceLeDiff, Nat.reduceLT, Nat.reduceBEq, Int.reduceToNat, Int.reduceLT, Int.reduceLE, Int.reduceEq, vK, oK] at IH
          simp only [go_sem, Nat.reduceAdd, Nat.reduceSub, Nat.reduceMul, Nat.reduceDiv, Nat.reduceMod, Nat.reduceLeDiff, Nat.reduceLT, Nat.reduceBEq, Int.reduceToNat, Int.reduceLT, Int.reduceLE, Int.reduceEq, hs, slD_cons] at h77
          simp only [go_sem, Nat.reduceAdd, Nat.reduceSub, Nat.reduceMul, Nat.reduceDiv, Nat.reduceMod, Nat.reduceLeDiff, Nat.reduceLT, Nat.reduceBEq, Int.reduceToNat, Int.reduceLT, Int.reduceLE, Int.reduceEq, vK, oK, lt_t h2, h1, h6, hs, h77, ne_eq, not_true_eq_false]
          exact IH
    · simp only [h0, if_false, x30]
      cases ks with
      | nil =>
        simp only [go_sem, Nat.reduceAdd, Nat.reduceSub, Nat.reduceMul, Nat.reduceDiv, Nat.reduceMod, Nat.reduceLeDiff, Nat.reduceLT, Nat.reduceBEq, Int.reduceToNat, Int.reduceLT, Int.reduceLE, Int.reduceEq, slD_nil] at h77
        simp only [go_sem, Nat.reduceAdd, Nat.reduceSub, Nat.reduceMul, Nat.reduceDiv, Nat.reduceMod, Nat.reduceLeDiff, Nat.reduceLT, Nat.reduceBEq, Int.reduceToNat, Int.reduceLT, Int.reduceLE, Int.reduceEq, vK, oK, lt_t h2, h1, h6, h77, ne_eq, h0, not_false_eq_true]
      | cons k ks =>
        simp only [go_sem, Nat.reduceAdd, Nat.reduceSub, Nat.reduceMul, Nat.reduceDiv, Nat.reduceMod, Nat.reduceLeDiff, Nat.reduceLT, Nat.reduceBEq, Int.reduceToNat, Int.reduceLT, Int.reduceLE, Int.reduceEq, slD_cons] at h77
        simp only [go_sem, Nat.reduceAdd, Nat.reduceSub, Nat.reduceMul, Nat.reduceDiv, Nat.reduceMod, Nat.reduceLeDiff, Nat.reduceLT, Nat.reduceBEq, Int.reduceToNat, Int.reduceLT, Int.reduceLE, Int.reduceEq, vK, oK, lt_t h2, h1, h6, h77, ne_eq, h0, not_false_eq_true]
def rform (c : Cl) (l : List Stp) : Int := if rClErr c = 0 then
    (if l.length = 0 then 10 else if 400 < l.length then 5 else
      let r := rcf c l 0 []
      if r.1 = 0 then (if decide (¬ (r.2.length : Int) = sb l.length 1) then 2 else 0) else r.1)
  else rClErr c
theorem ok30 (n : Nat) (c : Cl) (b : Bool) (l : List Stp) (hc : c.Fit) (hl : l.length < 1000000000) (hf : ∀ s ∈ l, s.Fits) : callP (level E (n+5)) 30 [.agg (enC c), .agg [slD b 9 (l.map enT)]] = some (.int .i64 (rform c l)) := by
  have h12 := ok12 n c hc
  simp only [go_sem, Nat.reduceAdd, Nat.reduceSub, Nat.reduceMul, Nat.reduceDiv, Nat.reduceMod, Nat.reduceLeDiff, Nat.reduceLT, Nat.reduceBEq, Int.reduceToNat, Int.reduceLT, Int.reduceLE, Int.reduceEq] at h12
  rw [p30]
  unfold rform
  by_cases h0 : rClErr c = 0
  · rw [h0] at h12
    by_cases h1 : l.length = 0
    · have e1 : (((l.length : Nat) : Int) = 0) = True := eq_true (by omega)
      simp only [go_sem, Nat.reduceAdd, Nat.reduceSub, Nat.reduceMul, Nat.reduceDiv, Nat.reduceMod, Nat.reduceLeDiff, Nat.reduceLT, Nat.reduceBEq, Int.reduceToNat, Int.reduceLT, Int.reduceLE, Int.reduceEq, sg_slD, h12, ne_eq, not_true_eq_false, e1, h0, h1]
    · have e1 : (((l.length : Nat) : Int) = 0) = False := eq_false (by omega)
      by_cases h2 : 400 < l.length
      · have e2 : ((400 : Int) < ((l.length : Nat) : Int)) = True := eq_true (by omega)
        simp only [go_sem, Nat.reduceAdd, Nat.reduceSub, Nat.reduceMul, Nat.reduceDiv, Nat.reduceMod, Nat.reduceLeDiff, Nat.reduceLT, Nat.reduceBEq, Int.reduceToNat, Int.reduceLT, Int.reduceLE, Int.reduceEq, sg_slD, h12, ne_eq, not_true_eq_false, e1, e2, h0, h1, h2]
      · have e2 : ((400 : Int) < ((l.length : Nat) : Int)) = False := eq_false (by omega)
        have h := l30 (n := n) (c := c) (b := b) (l := l) (by omega) hf l 0 [] rfl (by simp)
        rw [cast0] at h
        simp only [h0, h1, h2, if_true, if_false]
        generalize rcf c l 0 [] = r at h
        obtain ⟨e, ks⟩ := r
        have h42 := ok42 (n + 3) (decide (¬ (ks.length : Int) = sb l.length 1)) 2
        have g1 : wrp .i64 (((l.length : Nat) : Int) - 1) = sb l.length 1 := rfl
        by_cases h3 : e = 0
        · simp only [x30, h3, if_true] at h ⊢
          cases ks with
          | nil =>
            simp only [go_sem, Nat.reduceAdd, Nat.reduceSub, Nat.reduceMul, Nat.reduceDiv, Nat.reduceMod, Nat.reduceLeDiff, Nat.reduceLT, Nat.reduceBEq, Int.reduceToNat, Int.reduceLT, Int.reduceLE, Int.reduceEq, vK, oK] at h h42
            simp only [go_sem, Nat.reduceAdd, Nat.reduceSub, Nat.reduceMul, Nat.reduceDiv, Nat.reduceMod, Nat.reduceLeDiff, Nat.reduceLT, Nat.reduceBEq, Int.reduceToNat, Int.reduceLT, Int.reduceLE, Int.reduceEq, sg_slD, h12, ne_eq, not_true_eq_false, e1, e2, h, g1, h42]
          | cons k ks =>
            simp only [go_sem, Nat.reduceAdd, Nat.reduceSub, Nat.reduceMul, Nat.reduceDiv, Nat.reduceMod, Nat.reduceLeDiff, Nat.reduceLT, Nat.reduceBEq, Int.reduceToNat, Int.reduceLT, Int.reduceLE, Int.reduceEq, vK, oK] at h h42
            simp only [go_sem, Nat.reduceAdd, Nat.reduceSub, Nat.reduceMul, Nat.reduceDiv, Nat.reduceMod, Nat.reduceLeDiff, Nat.reduceLT, Nat.reduceBEq, Int.reduceToNat, Int.reduceLT, Int.reduceLE, Int.reduceEq, sg_slD, h12, ne_eq, not_true_eq_false, e1, e2, h, g1, h42]
        · simp only [x30, h3, if_false] at h ⊢
          cases ks <;> simp only [go_sem, Nat.reduceAdd, Nat.reduceSub, Nat.reduceMul, Nat.reduceDiv, Nat.reduceMod, Nat.reduceLeDiff, Nat.reduceLT, Nat.reduceBEq, Int.reduceToNat, Int.reduceLT, Int.reduceLE, Int.reduceEq, vK, oK] at h <;> simp only [go_sem, Nat.reduceAdd, Nat.reduceSub, Nat.reduceMul, Nat.reduceDiv, Nat.reduceMod, Nat.reduceLeDiff, Nat.reduceLT, Nat.reduceBEq, Int.reduceToNat, Int.reduceLT, Int.reduceLE, Int.reduceEq, sg_slD, h12, ne_eq, not_true_eq_false, e1, e2, h, h3]
  · simp only [go_sem, Nat.reduceAdd, Nat.reduceSub, Nat.reduceMul, Nat.reduceDiv, Nat.reduceMod, Nat.reduceLeDiff, Nat.reduceLT, Nat.reduceBEq, Int.reduceToNat, Int.reduceLT, Int.reduceLE, Int.reduceEq, sg_slD, h12, ne_eq, h0, not_false_eq_true]
end Go.Vm.P12

/- Chapter 12, the laws: the reference's check. -/
set_option maxRecDepth 100000
set_option maxHeartbeats 4000000
namespace Go.Vm.P12
open Go Go.Vm
def rck (l : List Stp) : Nat → Cl → Nat → Int × Int
  | 0, _, _ => (0, 0)
  | f + 1, c, k => match l[k]? with
    | none => (0, 0)
    | some y =>
      if y.leaf then (if rright y c then (0, 0) else ((k : Int), 29))
      else
        let s := c.sp.getD y.va.toNat ⟨0, 0⟩
        if y.bo < s.lo ∨ s.hi ≤ y.bo then ((k : Int), 14)
        else
          let r := rck l f (nar c y.va.toNat ⟨s.lo, y.bo⟩) y.k0.toNat
          if r.2 = 0 then rck l f (nar c y.va.toNat ⟨ad y.bo 1, s.hi⟩) y.k1.toNat else r
theorem ok78 (n : Nat) (b : Bool) (l : List Stp) (spn gvn : Nat) (hw : Wf l spn gvn) (hb : l.length < 1000000000) : ∀ (f k : Nat) (c : Cl) (y : Stp), k < f → c.Even → c.sp.length = spn → c.gv.length = gvn → l[k]? = some y →
    callP (level E (n+3+f)) 78 [.agg (enC c), .agg [slD b 9 (l.map enT)], .int .i64 k] = some (.tup [.int .i64 (rck l f c k).1, .int .i64 (rck l f c k).2])
  | 0, k, c, y, hk, hc, hs, hg, hy => by omega
  | f + 1, k, c, y, hk, hc, hs, hg, hy => by
    have hkl := (List.getElem?_eq_some_iff.1 hy).1
    have h0l : (k : Int) < ((l.length : Nat) : Int) := by omega
    show callP (level E (n+3+f+1)) 78 _ = _
    rw [p78]
    simp only [rck, hy]
    cases hlf : y.leaf
    · obtain ⟨w1, w2, w3, w4, w5, w6⟩ := hw.split k y hy hlf
      obtain ⟨v, hv⟩ : ∃ v : Nat, y.va = v := ⟨y.va.toNat, by omega⟩
      obtain ⟨k0, hk0⟩ : ∃ k0 : Nat, y.k0 = k0 := ⟨y.k0.toNat, by omega⟩
      obtain ⟨k1, hk1⟩ : ∃ k1 : Nat, y.k1 = k1 := ⟨y.k1.toNat, by omega⟩
      have hvl : v < c.sp.length := by omega
      have hvl' : (v : Int) < ((c.sp.length : Nat) : Int) := by omega
      obtain ⟨s, hsv⟩ : ∃ s, c.sp[v]? = some s := ⟨_, List.getElem?_eq_getElem hvl⟩
      obtain ⟨y0, hy0⟩ : ∃ y0, l[k0]? = some y0 := ⟨_, List.getElem?_eq_getElem (show k0 < l.length by omega)⟩
      obtain ⟨y1, hy1⟩ : ∃ y1, l[k1]? = some y1 := ⟨_, List.getElem?_eq_getElem (show k1 < l.length by omega)⟩
      have hgd : c.sp.getD v ⟨0, 0⟩ = s := by rw [List.getD_eq_getElem?_getD, hsv]; rfl
      have z0 : (0 : Int) < ((2 : Nat) : Int) := by decide
      have z1 : (1 : Int) < ((2 : Nat) : Int) := by decide
      have g1 : wrp .i64 (y.bo + 1) = ad y.bo 1 := rfl
      have hcb : c.sp.length < 1000000000 := hc.fit.sp
      obtain ⟨c0, hc0⟩ : ∃ c0, c0 = nar c v ⟨s.lo, y.bo⟩ := ⟨_, rfl⟩
      obtain ⟨c1, hc1⟩ : ∃ c1, c1 = nar c v ⟨ad y.bo 1, s.hi⟩ := ⟨_, rfl⟩
      have ev0 : c0.Even := hc0 ▸ nar_even hc _ _
      have ev1 : c1.Even := hc1 ▸ nar_even hc _ _
      have s0 : c0.sp.length = spn := by rw [hc0]; simpa [nar] using hs
      have s1 : c1.sp.length = spn := by rw [hc1]; simpa [nar] using hs
      have g0 : c0.gv.length = gvn := by rw [hc0]; exact hg
      have g1' : c1.gv.length = gvn := by rw [hc1]; exact hg
      have i0 := ok78 n b l spn gvn hw hb f k0 c0 y0 (by omega) ev0 s0 g0 hy0
      have i1 := ok78 n b l spn gvn hw hb f k1 c1 y1 (by omega) ev1 s1 g1' hy1
      have n0 := ok89 (n+2+f) c v ⟨s.lo, y.bo⟩ hvl hcb
      have n1 := ok89 (n+2+f) c v ⟨ad y.bo 1, s.hi⟩ hvl hcb
      rw [show n + 2 + f + 1 = n + 3 + f by omega] at n0 n1
      rw [← hc0] at n0
      rw [← hc1] at n1
      simp only [Bool.false_eq_true, if_false]
      rw [hv, hk0, hk1, Int.toNat_natCast, Int.toNat_natCast, Int.toNat_natCast, hgd, ← hc0, ← hc1]
      simp only [go_sem, Nat.reduceAdd, Nat.reduceSub, Nat.reduceMul, Nat.reduceDiv, Nat.reduceMod, Nat.reduceLeDiff, Nat.reduceLT, Nat.reduceBEq, Int.reduceToNat, Int.reduceLT, Int.reduceLE, Int.reduceEq] at i0 i1 n0 n1
      by_cases b1 : y.bo < s.lo
      · simp only [b1, true_or, if_true]
        simp only [go_sem, Nat.reduceAdd, Nat.reduceSub, Nat.reduceMul, Nat.reduceDiv, Nat.reduceMod, Nat.reduceLeDiff, Nat.reduceLT, Nat.reduceBEq, Int.reduceToNat, Int.reduceLT, Int.reduceLE, Int.reduceEq, sg_slD, hy, h0l, hlf, hv, hk0, hk1, Int.natCast_nonneg, hvl', hsv, b1]
      · by_cases b2 : s.hi ≤ y.bo
        · simp only [b1, b2, or_true, if_true]
          simp only [go_sem, Nat.reduceAdd, Nat.reduceSub, Nat.reduceMul, Nat.reduceDiv, Nat.reduceMod, Nat.reduceLeDiff, Nat.reduceLT, Nat.reduceBEq, Int.reduceToNat, Int.reduceLT, Int.reduceLE, Int.reduceEq, sg_slD, hy, h0l, hlf, hv, hk0, hk1, Int.natCast_nonneg, hvl', hsv, b1, b2]
        · simp only [b1, b2, or_self, if_false]
          by_cases e0 : (rck l f c0 k0).2 = 0
          · simp only [e0, if_true] at i0 ⊢
            simp only [go_sem, Nat.reduceAdd, Nat.reduceSub, Nat.reduceMul, Nat.reduceDiv, Nat.reduceMod, Nat.reduceLeDiff, Nat.reduceLT, Nat.reduceBEq, Int.reduceToNat, Int.reduceLT, Int.reduceLE, Int.reduceEq, sg_slD, hy, h0l, hlf, hv, hk0, hk1, Int.natCast_nonneg, hvl', hsv, b1, b2, z0, z1, g1, n0, n1, i0, i1, ne_eq, not_true_eq_false]
          · simp only [e0, if_false]
            simp only [go_sem, Nat.reduceAdd, Nat.reduceSub, Nat.reduceMul, Nat.reduceDiv, Nat.reduceMod, Nat.reduceLeDiff, Nat.reduceLT, Nat.reduceBEq, Int.reduceToNat, Int.reduceLT, Int.reduceLE, Int.reduceEq, sg_slD, hy, h0l, hlf, hv, hk0, hk1, Int.natCast_nonneg, hvl', hsv, b1, b2, z0, z1, g1, n0, n1, i0, i1, ne_eq, e0, not_false_eq_true]
    · obtain ⟨w1, w2, w3⟩ := hw.leaf k y hy hlf
      have h56 := ok56 (n+1+f) y c hc (by omega) (by omega) (by omega)
      rw [show n + 1 + f + 2 = n + 3 + f by omega] at h56
      simp only [go_sem, Nat.reduceAdd, Nat.reduceSub, Nat.reduceMul, Nat.reduceDiv, Nat.reduceMod, Nat.reduceLeDiff, Nat.reduceLT, Nat.reduceBEq, Int.reduceToNat, Int.reduceLT, Int.reduceLE, Int.reduceEq, hlf] at h56
      simp only [if_true]
      cases hr : rright y c <;> rw [hr] at h56
      · simp only [go_sem, Nat.reduceAdd, Nat.reduceSub, Nat.reduceMul, Nat.reduceDiv, Nat.reduceMod, Nat.reduceLeDiff, Nat.reduceLT, Nat.reduceBEq, Int.reduceToNat, Int.reduceLT, Int.reduceLE, Int.reduceEq, sg_slD, hy, h0l, hlf, Int.natCast_nonneg, h56, Bool.false_eq_true]
      · simp only [go_sem, Nat.reduceAdd, Nat.reduceSub, Nat.reduceMul, Nat.reduceDiv, Nat.reduceMod, Nat.reduceLeDiff, Nat.reduceLT, Nat.reduceBEq, Int.reduceToNat, Int.reduceLT, Int.reduceLE, Int.reduceEq, sg_slD, hy, h0l, hlf, Int.natCast_nonneg, h56]
end Go.Vm.P12

/- Chapter 12, plain laws: the decisions of both sides; the errors of claims. -/
set_option maxRecDepth 100000
namespace Go.Vm.P12
open Go Go.Vm
def SpOk (l : List Sp) : Prop := ∀ s ∈ l, -1048576 ≤ s.lo ∧ s.lo ≤ s.hi ∧ s.hi ≤ 1048576
def Rel (l : List Sp) (k : Nat) (fd : Bool) (v : Nat) : Prop := v < l.length ∧ (fd = true → k = v ∧ 0 < wdt (l.getD v ⟨0, 0⟩)) ∧ (fd = false → v = 0 ∧ k = 0 ∧ wdt (l.getD v ⟨0, 0⟩) = 0)
end Go.Vm.P12

/- Chapter 12, plain laws: the errors of claims; a claim and its copy. -/
set_option maxRecDepth 100000
namespace Go.Vm.P12
open Go Go.Vm
theorem fnz_app : ∀ (l r : List Int), fnz (l ++ r) = if fnz l = 0 then fnz r else fnz l
  | [], r => by simp [fnz]
  | x :: l, r => by
    rw [List.cons_append, fnz_cons, fnz_cons, fnz_app l r]
    by_cases h : x = 0
    · simp [h]
    · simp [h]
theorem ck_off (a b c : Int) : ckR a b c = if offB a b c then 3 else 0 := by
  unfold ckR offB
  by_cases h1 : a < b <;> by_cases h2 : c < a <;> simp [h1, h2]
theorem sp1_eq (s : Sp) : spErr1 s = rSp1 s := by
  unfold spErr1 rSp1
  rw [ck_off, ck_off]
  cases offB s.lo (-1048576) 1048576 <;> cases offB s.hi (-1048576) 1048576 <;> simp [fnz]
theorem sp_eq (l : List Sp) : spErr l = rSpErr l := by
  unfold spErr rSpErr
  rw [show spErr1 = rSp1 from funext sp1_eq]
theorem fnz_ck : ∀ l : List Int, fnz (l.map ckC) = if l.any (fun c => offB c (-1048576) 1048576) then 3 else 0
  | [] => rfl
  | x :: l => by
    rw [List.map_cons, fnz_cons, fnz_ck l, ckC, ck_off, List.any_cons]
    cases offB x (-1048576) 1048576 <;> simp
theorem ln_eq (x : Ln) (m : Nat) : lnErr x m = rLnErr x m := by
  unfold lnErr rLnErr
  rw [fnz_ck, ck_off]
  by_cases h : x.co.length = m
  · have h' : (x.co.length : Int) = m := by omega
    cases x.co.any (fun c => offB c (-1048576) 1048576) <;> cases offB x.c (-1099511627776) 1099511627776 <;> simp [fnz, h]
  · have h' : ¬ (x.co.length : Int) = m := by omega
    simp [fnz, h, h']
theorem cl_eq (c : Cl) : clErr c = rClErr c := by
  unfold clErr rClErr clE0
  rw [sp_eq]
  have e : ((c.gv ++ [c.go]).map fun l => lnErr l c.sp.length) = (c.gv.map fun l => rLnErr l c.sp.length) ++ [rLnErr c.go c.sp.length] := by
    rw [List.map_append, List.map_cons, List.map_nil, ln_eq]
    congr 1
    exact List.map_congr_left fun l _ => ln_eq l _
  rw [e, fnz_app]
  by_cases h0 : rSpErr c.sp = 0
  · by_cases h1 : (12 : Int) < c.gv.length
    · simp [fnz, h0, h1]
    · simp only [fnz, h0, h1, decide_false, Bool.false_eq_true, if_false, if_true]
      by_cases h2 : fnz (c.gv.map fun l => rLnErr l c.sp.length) = 0
      · simp only [h2, if_true]
        by_cases h3 : rLnErr c.go c.sp.length = 0 <;> simp [h3]
      · simp only [h2, if_false]
  · simp [fnz, h0]
theorem cpy_err (c : Cl) : clErr (cpy c) = clErr c := by
  unfold clErr clE0
  have e : (((cpy c).gv ++ [(cpy c).go]).map fun l => lnErr l (cpy c).sp.length) = ((c.gv ++ [c.go]).map fun l => lnErr l c.sp.length) := by
    simp only [cpy, List.map_append, List.map_map, List.map_cons, List.map_nil]
    rfl
  rw [e]
  simp only [cpy, List.length_map]
theorem cpy_fit {c : Cl} (h : c.Fit) : (cpy c).Fit := by
  refine ⟨h.sp, by simpa [cpy] using h.gv, ?_, h.go⟩
  intro x hx
  simp only [cpy, List.mem_map] at hx
  obtain ⟨y, hy, rfl⟩ := hx
  exact h.ln y hy
theorem fz0 : ∀ l : List Int, fnz l = 0 → ∀ x ∈ l, x = 0
  | [], _, x, hx => by cases hx
  | y :: l, h, x, hx => by
    rw [fnz_cons] at h
    by_cases hy : y = 0
    · rw [if_pos hy] at h
      rcases List.mem_cons.1 hx with rfl | hx
      · exact hy
      · exact fz0 l h x hx
    · rw [if_neg hy] at h; exact absurd h hy
theorem off_f {a lo hi : Int} (h : offB a lo hi = false) : lo ≤ a ∧ a ≤ hi := by
  simp only [offB, Bool.or_eq_false_iff, decide_eq_false_iff_not] at h
  omega
theorem clErr_sp {c : Cl} (h : clErr c = 0) : SpOk c.sp := by
  have h0 : spErr c.sp = 0 := by
    unfold clErr at h
    split at h
    · rename_i h1; exact fz0 _ h1 _ (by simp)
    · rename_i h1; exact absurd h h1
  have h1 : fnz (c.sp.map spErr1) = 0 := by
    unfold spErr at h0
    split at h0
    · cases h0
    · exact h0
  intro s hs
  have h2 := fz0 _ h1 _ (List.mem_map.2 ⟨s, hs, rfl⟩)
  have h3 := fz0 _ h2 (if offB s.lo (-1048576) 1048576 || offB s.hi (-1048576) 1048576 then 3 else 0) (by simp)
  have h4 := fz0 _ h2 (if decide (s.hi < s.lo) then 9 else 0) (by simp)
  cases a : offB s.lo (-1048576) 1048576
  · cases b : offB s.hi (-1048576) 1048576
    · have := off_f a
      have := off_f b
      by_cases hh : s.hi < s.lo
      · simp [hh] at h4
      · omega
    · rw [a, b] at h3; simp at h3
  · rw [a] at h3; simp at h3
theorem cpy_left (y : Stp) (c : Cl) : (left y (cpy c)).co = (left y c).co ∧ (left y (cpy c)).c = (left y c).c := by
  have key : ∀ (gs : List Ln) (ks : List Int) (x z : Ln), x.co = z.co → x.c = z.c → (lft x (gs.map lnc) ks).co = (lft z gs ks).co ∧ (lft x (gs.map lnc) ks).c = (lft z gs ks).c := by
    intro gs
    induction gs with
    | nil => intro ks x z h1 h2; cases ks <;> exact ⟨h1, h2⟩
    | cons g gs ih =>
      intro ks x z h1 h2
      cases ks with
      | nil => exact ⟨h1, h2⟩
      | cons k ks =>
        simp only [List.map_cons, lft]
        refine ih ks _ _ ?_ ?_
        · simp only [pls, h1]; rfl
        · simp only [pls, h2]; rfl
  exact key c.gv y.gv _ _ rfl rfl
theorem cpy_prv (y : Stp) (c : Cl) : prv y (cpy c) = prv y c := by
  obtain ⟨h1, h2⟩ := cpy_left y c
  simp only [prv, h1, h2]; rfl
end Go.Vm.P12

/- Chapter 12, plain laws: the forms and the checks of both sides. -/
set_option maxRecDepth 100000
set_option maxHeartbeats 2000000
namespace Go.Vm.P12
open Go Go.Vm
theorem rng_eq (m : Int) : ∀ l : List Int, rng m l = if l.any (fun x => offB x 0 m) then 3 else 0
  | [] => rfl
  | x :: l => by
    have IH := rng_eq m l
    unfold rng at IH ⊢
    rw [List.map_cons, fnz_cons, List.any_cons, IH]
    unfold ckR offB
    by_cases h1 : x < 0 <;> by_cases h2 : m < x <;> simp [h1, h2]
theorem ckR_eq (a lo hi : Int) : ckR a lo hi = if offB a lo hi then 3 else 0 := by
  unfold ckR offB
  by_cases h1 : a < lo <;> by_cases h2 : hi < a <;> simp [h1, h2]
theorem lf_eq (y : Stp) (c : Cl) : lfErr y c = rlE y c := by
  unfold lfErr rlE lf2
  rw [ckR_eq, rng_eq, rng_eq, rng_eq]
  cases lf1 y c <;> cases offB y.goal 0 1000 <;> cases y.gv.any (fun x => offB x 0 1000) <;> cases y.lw.any (fun x => offB x 0 34359738368) <;> cases y.hg.any (fun x => offB x 0 34359738368) <;> cases lf3 y <;> simp [fnz]
theorem spa_eq {y : Stp} (hy : y.Fits) : sp1 y = rs1 y := by
  have f1 := hy.gv
  have f2 := hy.lw
  have f3 := hy.hg
  unfold sp1 rs1
  rw [wrp_ok (n := (y.gv.length : Int) + y.lw.length) (by omega), wrp_ok (by omega)]
  have e : decide (0 < (y.gv.length : Int) + y.lw.length + y.hg.length) = (decide (0 < (y.gv.length : Int)) || (decide (0 < (y.lw.length : Int)) || decide (0 < (y.hg.length : Int)))) := by
    rw [← Bool.decide_or, ← Bool.decide_or]
    apply decide_eq_decide.2
    omega
  rw [e]
theorem spb_eq {y : Stp} {i : Nat} (hi : i < 1000000000) : sp2 y i = rs3 y i := by
  unfold sp2 rs3 offB
  rw [sbn hi]
  rw [← Bool.decide_or, ← Bool.decide_or, ← Bool.decide_or, ← Bool.decide_or, ← Bool.decide_or, ← Bool.decide_or]
  apply decide_eq_decide.2
  omega
theorem rs2_eq {y : Stp} {c : Cl} (hc : c.sp.length < 1000000000) : offB y.va 0 (sb c.sp.length 1) = rs2 y c := by
  unfold offB rs2
  rw [sbn hc, ← Bool.decide_or, ← Bool.decide_or]
  apply decide_eq_decide.2
  omega
theorem fnz_snoc : ∀ (l : List Int) (x : Int), fnz (l ++ [x]) = if fnz l = 0 then x else fnz l
  | [], x => by by_cases h : x = 0 <;> simp [fnz, h]
  | y :: l, x => by
    rw [List.cons_append, fnz_cons, fnz_cons, fnz_snoc l x]
    by_cases h : y = 0 <;> simp [h]
theorem spl_eq {y : Stp} {c : Cl} {i : Nat} {ks : List Int} (hy : y.Fits) (hc : c.sp.length < 1000000000) (hi : i < 1000000000) :
    (spl y c i ks).1 = rsE y c i ks ∧ ((spl y c i ks).1 = 0 → (spl y c i ks).2 = ks ++ [y.k0, y.k1]) := by
  unfold spl spE rsE
  rw [spa_eq hy, spb_eq hi, rs2_eq hc, ckR_eq]
  have hs := fnz_snoc [if rs1 y then 1 else 0, if rs2 y c then 8 else 0, if offB y.bo (-1048576) 1048576 then 3 else 0, if rs3 y i then 9 else 0] (if rs4 y ks then 7 else 0)
  simp only [List.cons_append, List.nil_append] at hs
  rw [hs]
  generalize (fnz [if rs1 y then 1 else 0, if rs2 y c then 8 else 0, if offB y.bo (-1048576) 1048576 then 3 else 0, if rs3 y i then 9 else 0]) = e
  by_cases he : e = 0
  · simp only [he, if_true]
    have e1 : (ks ++ [y.k0]).contains y.k1 = (ks.contains y.k1 || decide (y.k0 = y.k1)) := by
      by_cases h : y.k0 = y.k1
      · simp [h]
      · have h' : ¬ y.k1 = y.k0 := fun e => h e.symm
        simp [h, h']
    unfold rs4
    rw [e1]
    cases ks.contains y.k0 <;> cases (ks.contains y.k1 || decide (y.k0 = y.k1)) <;> simp
  · simp only [he, if_false]
    exact ⟨trivial, fun h => h.elim⟩
theorem cf_eq {c : Cl} (hc : c.sp.length < 1000000000) : ∀ (r : List Stp) (i : Nat) (ks : List Int), (∀ s ∈ r, s.Fits) → i + r.length < 1000000000 →
    (cf c r i ks).1 = (rcf c r i ks).1 ∧ ((rcf c r i ks).1 = 0 → (cf c r i ks).2 = (rcf c r i ks).2)
  | [], i, ks, hf, hi => ⟨rfl, fun _ => rfl⟩
  | s :: r, i, ks, hf, hi => by
    simp only [List.length_cons] at hi
    have IH := fun ks => cf_eq hc r (i + 1) ks (fun x hx => hf x (List.mem_cons_of_mem _ hx)) (by omega)
    simp only [cf, rcf, rStE]
    by_cases hl : s.leaf = true
    rotate_left
    · obtain ⟨h1, h2⟩ := spl_eq (ks := ks) (hf s (List.mem_cons_self)) hc (show i < 1000000000 by omega)
      simp only [hl, Bool.false_eq_true, if_false]
      rw [h1] at h2 ⊢
      by_cases h0 : rsE s c i ks = 0
      · simp only [h0, if_true]
        rw [h2 h0]
        exact IH _
      · simp only [h0, if_false]
        exact ⟨h1, fun h => h.elim⟩
    · simp only [hl, if_true]
      rw [lf_eq]
      by_cases h0 : rlE s c = 0
      · simp only [h0, if_true]
        exact IH _
      · simp only [h0, if_false]
        exact ⟨trivial, fun h => h.elim⟩
theorem form_eq {c : Cl} {l : List Stp} (hc : c.Fit) (hl : l.length < 1000000000) (hf : ∀ s ∈ l, s.Fits) : cform c l = rform c l := by
  unfold cform rform
  have hE : cfE c l = if rClErr c = 0 then (if l.length = 0 then 10 else if 400 < l.length then 5 else 0) else rClErr c := by
    unfold cfE
    rw [cl_eq]
    by_cases h0 : rClErr c = 0
    · by_cases h1 : l.length = 0
      · have e1 : ((l.length : Int) = 0) = True := eq_true (by omega)
        simp only [fnz, h0, h1]; simp
      · have e1 : ((l.length : Int) = 0) = False := eq_false (by omega)
        by_cases h2 : 400 < l.length
        · have e2 : ((400 : Int) < l.length) = True := eq_true (by omega)
          simp [fnz, h0, h1, h2, e1, e2]
        · have e2 : ((400 : Int) < l.length) = False := eq_false (by omega)
          simp [fnz, h0, h1, h2, e1, e2]
    · simp [fnz, h0]
  obtain ⟨k1, k2⟩ := cf_eq (c := c) hc.sp l 0 [] hf (by omega)
  rw [hE]
  by_cases h0 : rClErr c = 0
  · simp only [h0, if_true]
    by_cases h1 : l.length = 0
    · simp [h1]
    · by_cases h2 : 400 < l.length
      · simp [h1, h2]
      · simp only [h1, h2, if_false, if_true]
        rw [k1]
        by_cases h3 : (rcf c l 0 []).1 = 0
        · rw [k2 h3]
        · simp only [h3, if_false]
  · simp only [h0, if_false]
theorem cpy_lf (y : Stp) (c : Cl) : lfErr (nz y) (cpy c) = lfErr y c := by
  have e : (cpy c).gv.length = c.gv.length := by simp [cpy]
  unfold lfErr lf1
  rw [e]
  rfl
theorem cpy_spl (y : Stp) (c : Cl) (i : Int) (ks : List Int) : spl (nz y) (cpy c) i ks = spl y c i ks := rfl
theorem cpy_cf (c : Cl) : ∀ (r : List Stp) (i : Nat) (ks : List Int), cf (cpy c) (r.map nz) i ks = cf c r i ks
  | [], i, ks => rfl
  | s :: r, i, ks => by
    simp only [List.map_cons, cf, cpy_lf, cpy_spl, cpy_cf c r]
    rfl
theorem cpy_form (c : Cl) (l : List Stp) : cform (cpy c) (l.map nz) = cform c l := by
  unfold cform cfE
  simp only [cpy_err, List.length_map, cpy_cf]
theorem narp_sp {c : Cl} (h : SpOk c.sp) {v : Nat} {s : Sp} (h1 : -1048576 ≤ s.lo) (h2 : s.lo ≤ s.hi) (h3 : s.hi ≤ 1048576) : SpOk (nar c v s).sp := by
  intro x hx
  rcases List.mem_or_eq_of_mem_set hx with hx | rfl
  · exact h x hx
  · exact ⟨h1, h2, h3⟩
theorem prvp_nz (y : Stp) (c : Cl) : prv (nz y) c = prv y c := rfl
theorem prvp_sn (y : Stp) (c : Cl) (b : Bool) : prv y { c with sn := b } = prv y c := rfl
theorem ck_rck {l : List Stp} {spn gvn : Nat} (hw : Wf l spn gvn) : ∀ (f k : Nat) (c : Cl) (b : Bool), c.Even → SpOk c.sp → c.sp.length = spn → c.gv.length = gvn →
    ck (l.map nz) f { cpy c with sn := b } k = rck l f c k
  | 0, k, c, b, hc, ho, hs, hg => rfl
  | f + 1, k, c, b, hc, ho, hs, hg => by
    simp only [ck, rck, List.getElem?_map]
    cases hy : l[k]? with
    | none => rfl
    | some y =>
      simp only [Option.map_some]
      have e1 : (nz y).leaf = y.leaf := rfl
      rw [e1]
      cases hlf : y.leaf
      · obtain ⟨w1, w2, w3, w4, w5, w6⟩ := hw.split k y hy hlf
        obtain ⟨v, hv⟩ : ∃ v : Nat, y.va = v := ⟨y.va.toNat, by omega⟩
        have hvl : v < c.sp.length := by omega
        obtain ⟨s, hsv⟩ : ∃ s, c.sp[v]? = some s := ⟨_, List.getElem?_eq_getElem hvl⟩
        have hgd : c.sp.getD v ⟨0, 0⟩ = s := by rw [List.getD_eq_getElem?_getD, hsv]; rfl
        have hgd' : ({ cpy c with sn := b } : Cl).sp.getD v ⟨0, 0⟩ = s := hgd
        obtain ⟨o1, o2, o3⟩ := ho s (List.mem_of_getElem? hsv)
        simp only [Bool.false_eq_true, if_false]
        rw [show (nz y).va = y.va from rfl, show (nz y).bo = y.bo from rfl, show (nz y).k0 = y.k0 from rfl, show (nz y).k1 = y.k1 from rfl, hv, Int.toNat_natCast, hgd, hgd']
        have eo : offB y.bo s.lo (sb s.hi 1) = decide (y.bo < s.lo ∨ s.hi ≤ y.bo) := by
          unfold offB sb
          rw [wrp_ok (by omega), ← Bool.decide_or]
          apply decide_eq_decide.2
          omega
        rw [eo]
        by_cases hb : y.bo < s.lo ∨ s.hi ≤ y.bo
        · simp [hb]
        · have q1 : s.lo ≤ y.bo := by omega
          have q2 : y.bo < s.hi := by omega
          have ea : ad y.bo 1 = y.bo + 1 := by unfold ad; rw [wrp_ok (by omega)]
          have i0 := ck_rck hw f y.k0.toNat (nar c v ⟨s.lo, y.bo⟩) false (nar_even hc _ _) (narp_sp ho o1 (by simpa using q1) (by simp only; omega)) (by simpa [nar] using hs) hg
          have i1 := ck_rck hw f y.k1.toNat (nar c v ⟨ad y.bo 1, s.hi⟩) false (nar_even hc _ _) (narp_sp ho (by simp only [ea]; omega) (by simp only [ea]; omega) o3) (by simpa [nar] using hs) hg
          simp only [hb, decide_false, Bool.false_eq_true, if_false]
          have n0 : nar { cpy c with sn := b } v ⟨s.lo, y.bo⟩ = { cpy (nar c v ⟨s.lo, y.bo⟩) with sn := false } := rfl
          have n1 : nar { cpy c with sn := b } v ⟨ad y.bo 1, s.hi⟩ = { cpy (nar c v ⟨ad y.bo 1, s.hi⟩) with sn := false } := rfl
          rw [n0, n1, i0, i1]
      · obtain ⟨w1, w2, w3⟩ := hw.leaf k y hy hlf
        simp only [if_true]
        rw [prvp_nz, prvp_sn, cpy_prv, prv_right hc (by omega) (by omega)]
end Go.Vm.P12

/- Chapter 12, the laws: awake. -/
set_option maxRecDepth 100000
set_option maxHeartbeats 2000000
namespace Go.Vm.P12
open Go Go.Vm
def cA : Cl := ⟨false, [⟨0, 9⟩, ⟨0, 9⟩], false, [⟨false, [1, -1], 0⟩], ⟨false, [2, -1], 0⟩⟩
def cB : Cl := ⟨false, [⟨0, 9⟩], true, [], ⟨false, [2], -7⟩⟩
def cC : Cl := ⟨false, [⟨0, 3⟩, ⟨0, 3⟩], false, [⟨false, [2, -2], -1⟩, ⟨false, [-2, 2], 0⟩], ⟨false, [0, 0], -1⟩⟩
def cZ (t : Int) : Cl := ⟨false, [⟨t, 9⟩], true, [], ⟨false, [1], -3⟩⟩
theorem fitA : cA.Fit := ⟨by decide, by decide, by intro x hx; simp [cA] at hx; subst hx; decide, by decide⟩
theorem fitB : cB.Fit := ⟨by decide, by decide, by intro x hx; simp [cB] at hx, by decide⟩
theorem fitC : cC.Fit := ⟨by decide, by decide, by intro x hx; simp [cC] at hx; rcases hx with rfl | rfl <;> decide, by decide⟩
theorem fitZ (t : Int) : (cZ t).Fit := ⟨by simp [cZ], by simp [cZ], by intro x hx; simp [cZ] at hx, by simp [cZ]⟩
theorem ok46 (n : Nat) : callP (level E (n+2)) 46 [] = some (.agg (enC cA)) := by
  rw [p46]; simp only [go_sem, Nat.reduceAdd, Nat.reduceSub, Nat.reduceMul, Nat.reduceDiv, Nat.reduceMod, Nat.reduceLeDiff, Nat.reduceLT, Nat.reduceBEq, Int.reduceToNat, Int.reduceLT, Int.reduceLE, Int.reduceEq, ok47]; rfl
theorem ok48 (n : Nat) : callP (level E (n+2)) 48 [] = some (.agg (enC cB)) := by
  rw [p48]; simp only [go_sem, Nat.reduceAdd, Nat.reduceSub, Nat.reduceMul, Nat.reduceDiv, Nat.reduceMod, Nat.reduceLeDiff, Nat.reduceLT, Nat.reduceBEq, Int.reduceToNat, Int.reduceLT, Int.reduceLE, Int.reduceEq, ok47]; rfl
theorem ok49 (n : Nat) : callP (level E (n+1)) 49 [.ptr [.int .i64 0, .int .i64 3]] = some (.agg (enC cC)) := by
  rw [p49]; simp only [go_sem, Nat.reduceAdd, Nat.reduceSub, Nat.reduceMul, Nat.reduceDiv, Nat.reduceMod, Nat.reduceLeDiff, Nat.reduceLT, Nat.reduceBEq, Int.reduceToNat, Int.reduceLT, Int.reduceLE, Int.reduceEq]; rfl
theorem ok50 (n : Nat) (t : Int) : callP (level E (n+1)) 50 [.int .i64 t] = some (.agg (enC (cZ t))) := by
  rw [p50]; simp only [go_sem, Nat.reduceAdd, Nat.reduceSub, Nat.reduceMul, Nat.reduceDiv, Nat.reduceMod, Nat.reduceLeDiff, Nat.reduceLT, Nat.reduceBEq, Int.reduceToNat, Int.reduceLT, Int.reduceLE, Int.reduceEq]; rfl
def pY : Stp := ⟨true, 0, false, [1, 1], false, [0, 0], false, [0, 0], 0, 0, 0, 0⟩
def pZ : Stp := ⟨true, 1, true, [], false, [1], false, [0], 0, 0, 0, 0⟩
theorem v35 : least false cA.go cA.sp = .tup [.int .i64 (-9), .int .i64 0] := by kernel_rfl
theorem v10A : direct cA = .tup [.agg (enT ⟨true, 1, false, [1], true, [1, 0], true, [0, 0], 0, 0, 0, 0⟩), .bool true, .int .i64 0] := by kernel_rfl
theorem v10B : direct cB = .tup [.agg (enT zSt), .bool false, .int .i64 0] := by kernel_rfl
theorem v15a : dcD cB 5 = .tup [.agg [.nil], .sl 1 [[.int .i64 0]], .bool false, .int .i64 0] := by kernel_rfl
theorem v15b : dcD cB 4 = .tup [.agg [.nil], .nil, .bool false, .int .i64 30] := by kernel_rfl
def pC : List Stp := (dec 60 60 cC []).st
theorem v15c : dcD cC 60 = .tup [.agg [slD false 9 (pC.map enT)], .nil, .bool true, .int .i64 0] := by kernel_rfl
theorem v26a : chk cC pC = .tup [.int .i64 0, .int .i64 0] := by kernel_rfl
theorem v26b : chk cC [pY] = .tup [.int .i64 0, .int .i64 0] := by kernel_rfl
theorem v26c : chk (cZ 3) [pZ] = .tup [.int .i64 0, .int .i64 0] := by kernel_rfl
theorem v26d : chk (cZ 2) [pZ] = .tup [.int .i64 0, .int .i64 29] := by kernel_rfl
theorem v23 : refutes cB [3] = .tup [.bool true, .int .i64 0] := by kernel_rfl
def fitsB (s : Stp) : Bool := decide (s.gv.length < 1000000000) && decide (s.lw.length < 1000000000) && decide (s.hg.length < 1000000000)
theorem fits_all {l : List Stp} (h : l.all fitsB = true) : ∀ s ∈ l, s.Fits := by
  intro s hs
  have := List.all_eq_true.1 h s hs
  simp only [fitsB, Bool.and_eq_true, decide_eq_true_eq] at this
  exact ⟨this.1.1, this.1.2, this.2⟩
theorem vf : pC.all fitsB = true := by kernel_rfl
theorem vlen : decide (pC.length < 1000000000) = true := by kernel_rfl
theorem ok8 (n : Nat) : callP (level E (n + 421)) 8 [] = some (.bool true) := by
  have h46 := ok46 (n + 418)
  have h48 := ok48 (n + 418)
  have h49 := ok49 (n + 419)
  have h50a := ok50 (n + 419) 3
  have h50b := ok50 (n + 419) 2
  have h35 := ok35 (n + 413) cA.go cA.sn cA.sp (by decide) (by decide)
  have h10A := ok10 (n + 411) cA fitA
  have h10B := ok10 (n + 411) cB fitB
  have h15a := ok15 (n + 10) cB 5 fitB
  have h15b := ok15 (n + 10) cB 4 fitB
  have h15c := ok15 (n + 10) cC 60 fitC
  have h26a := ok26 (n + 410) cC false pC fitC (of_decide_eq_true vlen) (fits_all vf)
  have h26b := ok26 (n + 410) cC false [pY] fitC (by decide) (fits_all (by decide))
  have h26c := ok26 (n + 410) (cZ 3) false [pZ] (fitZ 3) (by decide) (fits_all (by decide))
  have h26d := ok26 (n + 410) (cZ 2) false [pZ] (fitZ 2) (by decide) (fits_all (by decide))
  have h23 := ok23 (n + 411) cB false [3] fitB (by decide)
  have h21a := ok21 (n + 419) false false [1] [1] (by decide)
  have h21b := ok21 (n + 419) true false [1, 0] [1, 0] (by decide)
  have h21c := ok21 (n + 419) true false [0, 0] [0, 0] (by decide)
  have h21d := ok21 (n + 419) false false [0] [0] (by decide)
  rw [v35] at h35
  rw [v10A] at h10A
  rw [v10B] at h10B
  rw [v15a] at h15a
  rw [v15b] at h15b
  rw [v15c] at h15c
  rw [v26a] at h26a
  rw [v26b] at h26b
  rw [v26c] at h26c
  rw [v26d] at h26d
  rw [v23] at h23
  have w00 : wrp .i64 (0 + 0) = 0 := by decide
  rw [p8]
  simp only [go_sem, Nat.reduceAdd, Nat.reduceSub, Nat.reduceMul, Nat.reduceDiv, Nat.reduceMod, Nat.reduceLeDiff, Nat.reduceLT, Nat.reduceBEq, Int.reduceToNat, Int.reduceLT, Int.reduceLE, Int.reduceEq, pY, pZ, zSt, cC, slD_cons, slD_nil, decide_true] at h46 h48 h49 h50a h50b h35 h10A h10B h15a h15b h15c h26a h26b h26c h26d h23 h21a h21b h21c h21d
  simp only [go_sem, Nat.reduceAdd, Nat.reduceSub, Nat.reduceMul, Nat.reduceDiv, Nat.reduceMod, Nat.reduceLeDiff, Nat.reduceLT, Nat.reduceBEq, Int.reduceToNat, Int.reduceLT, Int.reduceLE, Int.reduceEq, sg_slD, h46, h48, h49, h50a, h50b, h35, h10A, h10B, h15a, h15b, h15c, h26a, h26b, h26c, h26d, h23, h21a, h21b, h21c, h21d, w00, decide_true]
end Go.Vm.P12

/- Chapter 12, the laws: ProveDecides. -/
set_option maxRecDepth 100000
set_option maxHeartbeats 2000000
namespace Go.Vm.P12
open Go Go.Vm
theorem short_fit {c : Cl} (h : short c = true) : c.Fit ∧ c.gv.length ≤ 13 ∧ c.sp.length ≤ 8 := by
  simp only [short, Bool.and_eq_true, decide_eq_true_eq, shortLn, List.all_eq_true] at h
  refine ⟨⟨by omega, by omega, fun x hx => ?_, by omega⟩, by omega, by omega⟩
  have := h.2 x hx
  omega
end Go.Vm.P12

/- Chapter 12, the laws: ProveChecks. -/
set_option maxRecDepth 100000
set_option maxHeartbeats 4000000
namespace Go.Vm.P12
open Go Go.Vm
def rckR (c : Cl) (l : List Stp) : Int × Int := rck l l.length c (l.length - 1)
def rchk (c : Cl) (l : List Stp) : Int × Int := if rform c l = 0 then rckR c l else (0, rform c l)
theorem ok31 (n : Nat) (c : Cl) (b : Bool) (l : List Stp) (hc : c.Fit) (hl : l.length ≤ 401) (hf : ∀ s ∈ l, s.Fits) : callP (level E (n+410)) 31 [.agg (enC c), .agg [slD b 9 (l.map enT)]] = some (.tup [.int .i64 (rchk c l).1, .int .i64 (rchk c l).2]) := by
  have h30 := ok30 (n+404) c b l hc (by omega) hf
  rw [p31]
  unfold rchk
  simp only [go_sem, Nat.reduceAdd, Nat.reduceSub, Nat.reduceMul, Nat.reduceDiv, Nat.reduceMod, Nat.reduceLeDiff, Nat.reduceLT, Nat.reduceBEq, Int.reduceToNat, Int.reduceLT, Int.reduceLE, Int.reduceEq] at h30
  by_cases h0 : rform c l = 0
  · have hcf : cform c l = 0 := by rw [form_eq hc (by omega) hf]; exact h0
    obtain ⟨c1, c2, c3⟩ := cfE_f (cform_cf hcf).1
    obtain ⟨k, hk⟩ : ∃ k, l.length = k + 1 := ⟨l.length - 1, by omega⟩
    have hq : wrp .i64 (((l.length : Nat) : Int) - 1) = (k : Int) := by
      show sb (l.length : Nat) 1 = (k : Int)
      rw [sbn (by omega)]; omega
    obtain ⟨y, hy⟩ : ∃ y, l[k]? = some y := ⟨_, List.getElem?_eq_getElem (show k < l.length by omega)⟩
    have h78 := ok78 (n + 406 - l.length) b l c.sp.length c.gv.length (cform_wf hc hcf) (by omega) l.length k c y (by omega) (clErr_even hc c1) rfl rfl hy
    rw [show n + 406 - l.length + 3 + l.length = n + 409 by omega] at h78
    have hR : rckR c l = rck l l.length c k := by rw [rckR, hk]; rfl
    rw [← hR] at h78
    simp only [go_sem, Nat.reduceAdd, Nat.reduceSub, Nat.reduceMul, Nat.reduceDiv, Nat.reduceMod, Nat.reduceLeDiff, Nat.reduceLT, Nat.reduceBEq, Int.reduceToNat, Int.reduceLT, Int.reduceLE, Int.reduceEq] at h78
    simp only [go_sem, Nat.reduceAdd, Nat.reduceSub, Nat.reduceMul, Nat.reduceDiv, Nat.reduceMod, Nat.reduceLeDiff, Nat.reduceLT, Nat.reduceBEq, Int.reduceToNat, Int.reduceLT, Int.reduceLE, Int.reduceEq, sg_slD, h30, h0, ne_eq, not_true_eq_false, hq, h78]
  · simp only [go_sem, Nat.reduceAdd, Nat.reduceSub, Nat.reduceMul, Nat.reduceDiv, Nat.reduceMod, Nat.reduceLeDiff, Nat.reduceLT, Nat.reduceBEq, Int.reduceToNat, Int.reduceLT, Int.reduceLE, Int.reduceEq, sg_slD, h30, h0, ne_eq, not_false_eq_true]
theorem lvs_nz : ∀ (l : List Stp) (a : Int), lvs (l.map nz) a = lvs l a
  | [], a => rfl
  | s :: l, a => by
    simp only [List.map_cons, lvs]
    exact lvs_nz l _
theorem chk_eq {c : Cl} {l : List Stp} (hc : c.Fit) (hl : l.length ≤ 401) (hf : ∀ s ∈ l, s.Fits) : chk (cpy c) (l.map nz) = .tup [.int .i64 (rchk c l).1, .int .i64 (rchk c l).2] := by
  unfold chk rchk
  rw [cpy_form, form_eq hc (by omega) hf]
  by_cases h0 : rform c l = 0
  · simp only [h0, if_true]
    have hcf : cform c l = 0 := by rw [form_eq hc (by omega) hf]; exact h0
    obtain ⟨c1, c2, c3⟩ := cfE_f (cform_cf hcf).1
    have e : chkR (cpy c) (l.map nz) = rckR c l := by
      unfold chkR rckR
      rw [List.length_map]
      exact ck_rck (cform_wf hc hcf) _ _ c true (clErr_even hc c1) (clErr_sp c1) rfl rfl
    rw [e]
    by_cases h1 : (rckR c l).2 = 0
    · have h2 : (rckR c l).1 = 0 := by
        unfold rckR at h1 ⊢
        have key : ∀ (f : Nat) (c : Cl) (k : Nat), (rck l f c k).2 = 0 → (rck l f c k).1 = 0 := by
          intro f
          induction f with
          | zero => intros; rfl
          | succ f ih =>
            intro c k
            simp only [rck]
            cases l[k]? with
            | none => intro _; rfl
            | some y =>
              simp only
              by_cases g0 : y.leaf = true
              · by_cases g1 : rright y c = true <;> simp [g0, g1]
              · simp only [g0, Bool.false_eq_true, if_false]
                split
                · intro h; simp at h
                · split
                  · exact ih _ _
                  · exact ih _ _
        exact key _ _ _ h1
      simp only [h1, h2, if_true]
    · simp only [h1, if_false]
  · simp only [h0, if_false]
theorem shortP_fit {l : List Stp} (h : shortP l = true) : l.length ≤ 401 ∧ ∀ s ∈ l, s.Fits := by
  simp only [shortP, Bool.and_eq_true, decide_eq_true_eq, List.all_eq_true] at h
  refine ⟨by omega, fun s hs => ?_⟩
  have := h.2 s hs
  simp only [shortSt, Bool.not_eq_true', Bool.or_eq_false_iff, decide_eq_false_iff_not] at this
  exact ⟨by omega, by omega, by omega⟩
theorem nz_fits {l : List Stp} (h : ∀ s ∈ l, s.Fits) : ∀ s ∈ l.map nz, s.Fits := by
  intro s hs
  obtain ⟨y, hy, rfl⟩ := List.mem_map.1 hs
  exact ⟨(h y hy).gv, (h y hy).lw, (h y hy).hg⟩
theorem ok5 (n : Nat) (c : Cl) (b : Bool) (l : List Stp) : callP (level E (n + 430)) 5 [.agg (enC c), .agg [slD b 9 (l.map enT)]] = some (.bool true) := by
  have h8 := ok8 (n + 8)
  have h9 := ok9 (n + 427) c
  have h22 := ok22 (n + 428) b l
  rw [p5]
  simp only [go_sem, Nat.reduceAdd, Nat.reduceSub, Nat.reduceMul, Nat.reduceDiv, Nat.reduceMod, Nat.reduceLeDiff, Nat.reduceLT, Nat.reduceBEq, Int.reduceToNat, Int.reduceLT, Int.reduceLE, Int.reduceEq] at h9
  cases hs : short c
  · rw [hs] at h9
    simp only [go_sem, Nat.reduceAdd, Nat.reduceSub, Nat.reduceMul, Nat.reduceDiv, Nat.reduceMod, Nat.reduceLeDiff, Nat.reduceLT, Nat.reduceBEq, Int.reduceToNat, Int.reduceLT, Int.reduceLE, Int.reduceEq, sg_slD, h8, h9]
  · rw [hs] at h9
    cases hp : shortP l
    · rw [hp] at h22
      simp only [go_sem, Nat.reduceAdd, Nat.reduceSub, Nat.reduceMul, Nat.reduceDiv, Nat.reduceMod, Nat.reduceLeDiff, Nat.reduceLT, Nat.reduceBEq, Int.reduceToNat, Int.reduceLT, Int.reduceLE, Int.reduceEq, sg_slD, h8, h9, h22]
    · rw [hp] at h22
      obtain ⟨hf, hg13, hs8⟩ := short_fit hs
      obtain ⟨hl, hy⟩ := shortP_fit hp
      have hlm : (l.map nz).length ≤ 401 := by rw [List.length_map]; exact hl
      have h11 := ok11 (n + 427) c hf
      have h12 := ok12 (n + 425) c hf
      have h27 := ok27 (n + 427) b l (by omega) hy
      have h28 := ok28 (n + 421) (cpy c) (cpy_fit hf)
      have h29 := ok29 (n + 420) (cpy c) true (l.map nz) (cpy_fit hf) (by omega) (nz_fits hy)
      have h30 := ok30 (n + 424) c b l hf (by omega) hy
      have h26 := ok26 (n + 419) (cpy c) true (l.map nz) (cpy_fit hf) (by omega) (nz_fits hy)
      have h31 := ok31 (n + 19) c b l hf hl hy
      have h32 := ok32 (n + 427) true (l.map nz) (by omega)
      have h33 := ok33 (n + 427) b l
      have h34 := ok34 (n + 428) b l (by omega)
      rw [chk_eq hf hl hy] at h26
      rw [cpy_err, cl_eq] at h28
      rw [cpy_form, form_eq hf (by omega) hy] at h29
      have eE : lvE (l.map nz) = lvE l := by unfold lvE; rw [List.length_map]
      unfold leavesD at h32
      rw [eE, lvs_nz] at h32
      simp only [go_sem, Nat.reduceAdd, Nat.reduceSub, Nat.reduceMul, Nat.reduceDiv, Nat.reduceMod, Nat.reduceLeDiff, Nat.reduceLT, Nat.reduceBEq, Int.reduceToNat, Int.reduceLT, Int.reduceLE, Int.reduceEq] at h11 h12 h27 h28 h29 h30 h26 h31 h32
      by_cases h0 : lvE l = 0
      · simp only [h0, if_true] at h32 h33
        simp only [go_sem, Nat.reduceAdd, Nat.reduceSub, Nat.reduceMul, Nat.reduceDiv, Nat.reduceMod, Nat.reduceLeDiff, Nat.reduceLT, Nat.reduceBEq, Int.reduceToNat, Int.reduceLT, Int.reduceLE, Int.reduceEq, sg_slD, h8, h9, h22, h11, h12, h27, h28, h29, h30, h26, h31, h32, h33, h34, ne_eq, not_true_eq_false, decide_true, decide_false]
      · simp only [h0, if_false] at h32
        simp only [go_sem, Nat.reduceAdd, Nat.reduceSub, Nat.reduceMul, Nat.reduceDiv, Nat.reduceMod, Nat.reduceLeDiff, Nat.reduceLT, Nat.reduceBEq, Int.reduceToNat, Int.reduceLT, Int.reduceLE, Int.reduceEq, sg_slD, h8, h9, h22, h11, h12, h27, h28, h29, h30, h26, h31, h32, h33, h34, ne_eq, not_true_eq_false, decide_true, decide_false, h0, not_false_eq_true]
end Go.Vm.P12

/- Chapter 12: ProveChecks: the row and the card. -/
set_option maxRecDepth 100000
namespace Go.Proofs.YtfhjkkjaaeohhaaDoor
open Go Go.Vm Go.Vm.P12 Go.ChangeShapes Go.WideShapes Go.ChangeAt Go.RowKit
theorem read57 : Tryd.prog.readableRec 57 = true := by kernel_rfl
theorem row57 : 57 < Tryd.prog.types.size := of_decide_eq_true (by kernel_rfl)
theorem checks_lifted (os : Os) (started : os.Started) (H : Type) (enc : TypeId × Value → H) :
    ReturnsInHanded {} Tryd.checked os 5 .any (fun w args => (Rows.proveChecksSpec.pre enc Tryd.prog Tryd.f5 [] false w args ∧ laidMetH Tryd.prog laidW w) ∧ sizedMet enc Tryd.prog Tryd.f5 (OpenSpec.ofChange Rows.proveChecksSpec) false w args)
      (Rows.proveChecksSpec.post enc Tryd.prog Tryd.f5 false true false false) := by
  refine returnsInHanded_of_change_and (C := Tryd.checked) (X := fun w _ => laidMetH Tryd.prog laidW w) (fun _ _ _ hh h => h.of_heap hh) ownT started (by kernel_rfl) Tryd.func5
    (ChangeSpec.witness_shaped (enc := enc) (C := Tryd.checked) (os := os) (X := fun w _ => laidMetH Tryd.prog laidW w) false (World.doorLaid Tryd.prog 2000 os) #[noClaim, .agg #[.slice none 0 0]] 8 rfl (World.shaped_of_RefB (by kernel_rfl) (by kernel_rfl)) (by kernel_rfl) (by kernel_rfl) (by kernel_rfl) (door_met os _)) ?_
  intro W base args ds gs before hval0 hW _ _ hL _
  have hW' := hW
  have hlt := hW.lt
  obtain ⟨p, q, hA0, hV, rfl, hfz, hnd⟩ := hW
  have hA : DataW.TrodAll enc Tryd.prog W 0 (fun _ => true) true Tryd.f5.params.toList args.toList ds p := hA0
  rw [Tryd.params5] at hA
  obtain ⟨v0, v1, d0, d1, p0, p1, rfl, rfl, rfl, h0, h1⟩ := trodAll_two hA
  obtain ⟨rfl, rfl⟩ := trodVars_none hV
  obtain ⟨c, hc⟩ := arg_claim h0
  have hval : ∀ (j : Nat) t v, Tryd.f5.params[j]? = some t → (#[v0, v1] : Array Value)[j]? = some v → Value.okWide Tryd.prog W .any base t v := hval0
  rw [Tryd.params5] at hval
  obtain ⟨b, l, hl⟩ := arg_proof (hval 1 57 v1 rfl rfl) h1
  refine (call_ok anyXP (ok5 0 c b l) hL rfl (fun j d hj => ?_)).mono fun e w ⟨r, F, he, htr, hr⟩ => ?_
  · match j, hj with
    | 0, hj => injection hj with hj; subst hj; exact hc
    | 1, hj => injection hj with hj; subst hj; exact hl
    | j + 2, hj => simp at hj
  · subst he
    have hb := below_of htr
    obtain rfl := bool_of hr
    refine ⟨_, rfl, [d0, d1], [], p0 ++ p1 ++ [], [], p0 ++ p1, [], hW', trodAll_mk1 (shut_bool Tryd.underlying4 _), ?_, rfl, hb.frame _, nofun⟩
    exact trodAll_mk2 (Below.trod laidOutT read28 row28 h0 hb fun x hx => hlt x (by simp [hx])) (Below.trod laidOutT read57 row57 h1 hb fun x hx => hlt x (by simp [hx]))
theorem proveChecks_said : Rows.ProveChecksSaid :=
  OpenClaim.holds_of_wide 5 Tryd.f5 rfl rfl rfl rfl rfl rfl rfl ⟨rfl, rfl, rfl, rfl, rfl⟩ rfl rfl rfl rfl rfl (by kernel_rfl) Tryd.func5 (by kernel_rfl)
    (of_decide_eq_true (by kernel_rfl)) (by unfold Func.isWrapper; first | (rw [if_pos (by decide +kernel)]; kernel_rfl) | (rw [if_neg (by decide +kernel)]; exact ⟨rfl, rfl⟩))
    (fun os started H enc _ => checks_lifted os started H enc)
theorem proveChecks_holds : Rows.ProveChecksCardSaid :=
  Claim7.holds_tied_plain_at .later [] [.funcs] true (true, "ee78f3fea5e62ac867fb12881a9742dfec09454aa8e9067a5bd6c84d4de512dc") false
    proveChecks_said (fun _ h => by cases h) (by kernel_rfl) (fun _ h => by cases h) proveChecks_row_tie rfl ⟨rfl, rfl⟩ (by kernel_rfl) rfl
    (fun f fn hf hfn => by
      obtain rfl : f = 5 := Option.some.inj ((show Tryd.prog.funcNamed "halation/halationlaw12.ProveChecks" = some 5 by kernel_rfl).symm.trans hf) |>.symm
      obtain rfl : fn = Tryd.f5 := (Option.some.inj (Tryd.func5.symm.trans hfn)).symm
      exact ⟨by kernel_rfl, fun j t ht => by
        rw [Tryd.params5] at ht
        have hm : t ∈ [28, 57] := by simpa using Array.mem_of_getElem? ht
        have hall : ([28, 57].all fun u => !Tryd.prog.wantsStandIn u) = true := by kernel_rfl
        exact (show Tryd.prog.wantsStandIn t = false by simpa using List.all_eq_true.1 hall t hm)⟩)
    (by kernel_rfl)
#print axioms proveChecks_holds
end Go.Proofs.YtfhjkkjaaeohhaaDoor
