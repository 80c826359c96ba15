/- A part of the proof that the law answers true for every input; the conditions are those of the card: the listed variable reads as the program lays it. -/
import Derived.Test.YtgbmhofpndjdoaaGreatDoorV1
import Derived.Laws.Cells
import Derived.Laws.CopyRow
set_option linter.unusedSimpArgs false
set_option linter.unusedVariables false
/- Evaluating: lists and records with numbers written out. -/
namespace Go.Vm
open Go
section
variable {α : Type} {d v : α}
theorem gd0 {x0 : α} {r : List α} : List.getD (x0 :: r) 0 d = x0 := id rfl
theorem gd1 {x0 x1 : α} {r : List α} : List.getD (x0 :: x1 :: r) 1 d = x1 := id rfl
theorem gd2 {x0 x1 x2 : α} {r : List α} : List.getD (x0 :: x1 :: x2 :: r) 2 d = x2 := id rfl
theorem gd3 {x0 x1 x2 x3 : α} {r : List α} : List.getD (x0 :: x1 :: x2 :: x3 :: r) 3 d = x3 := id rfl
theorem gd4 {x0 x1 x2 x3 x4 : α} {r : List α} : List.getD (x0 :: x1 :: x2 :: x3 :: x4 :: r) 4 d = x4 := id rfl
theorem gd5 {x0 x1 x2 x3 x4 x5 : α} {r : List α} : List.getD (x0 :: x1 :: x2 :: x3 :: x4 :: x5 :: r) 5 d = x5 := id rfl
theorem gd6 {x0 x1 x2 x3 x4 x5 x6 : α} {r : List α} : List.getD (x0 :: x1 :: x2 :: x3 :: x4 :: x5 :: x6 :: r) 6 d = x6 := id rfl
theorem gd7 {x0 x1 x2 x3 x4 x5 x6 x7 : α} {r : List α} : List.getD (x0 :: x1 :: x2 :: x3 :: x4 :: x5 :: x6 :: x7 :: r) 7 d = x7 := id rfl
theorem gd8 {x0 x1 x2 x3 x4 x5 x6 x7 x8 : α} {r : List α} : List.getD (x0 :: x1 :: x2 :: x3 :: x4 :: x5 :: x6 :: x7 :: x8 :: r) 8 d = x8 := id rfl
theorem gd9 {x0 x1 x2 x3 x4 x5 x6 x7 x8 x9 : α} {r : List α} : List.getD (x0 :: x1 :: x2 :: x3 :: x4 :: x5 :: x6 :: x7 :: x8 :: x9 :: r) 9 d = x9 := id rfl
theorem gd10 {x0 x1 x2 x3 x4 x5 x6 x7 x8 x9 x10 : α} {r : List α} : List.getD (x0 :: x1 :: x2 :: x3 :: x4 :: x5 :: x6 :: x7 :: x8 :: x9 :: x10 :: r) 10 d = x10 := id rfl
theorem gd11 {x0 x1 x2 x3 x4 x5 x6 x7 x8 x9 x10 x11 : α} {r : List α} : List.getD (x0 :: x1 :: x2 :: x3 :: x4 :: x5 :: x6 :: x7 :: x8 :: x9 :: x10 :: x11 :: r) 11 d = x11 := id rfl
theorem gd12 {x0 x1 x2 x3 x4 x5 x6 x7 x8 x9 x10 x11 x12 : α} {r : List α} : List.getD (x0 :: x1 :: x2 :: x3 :: x4 :: x5 :: x6 :: x7 :: x8 :: x9 :: x10 :: x11 :: x12 :: r) 12 d = x12 := id rfl
theorem gd13 {x0 x1 x2 x3 x4 x5 x6 x7 x8 x9 x10 x11 x12 x13 : α} {r : List α} : List.getD (x0 :: x1 :: x2 :: x3 :: x4 :: x5 :: x6 :: x7 :: x8 :: x9 :: x10 :: x11 :: x12 :: x13 :: r) 13 d = x13 := id rfl
theorem gd14 {x0 x1 x2 x3 x4 x5 x6 x7 x8 x9 x10 x11 x12 x13 x14 : α} {r : List α} : List.getD (x0 :: x1 :: x2 :: x3 :: x4 :: x5 :: x6 :: x7 :: x8 :: x9 :: x10 :: x11 :: x12 :: x13 :: x14 :: r) 14 d = x14 := id rfl
theorem gd15 {x0 x1 x2 x3 x4 x5 x6 x7 x8 x9 x10 x11 x12 x13 x14 x15 : α} {r : List α} : List.getD (x0 :: x1 :: x2 :: x3 :: x4 :: x5 :: x6 :: x7 :: x8 :: x9 :: x10 :: x11 :: x12 :: x13 :: x14 :: x15 :: r) 15 d = x15 := id rfl
theorem gd16 {x0 x1 x2 x3 x4 x5 x6 x7 x8 x9 x10 x11 x12 x13 x14 x15 x16 : α} {r : List α} : List.getD (x0 :: x1 :: x2 :: x3 :: x4 :: x5 :: x6 :: x7 :: x8 :: x9 :: x10 :: x11 :: x12 :: x13 :: x14 :: x15 :: x16 :: r) 16 d = x16 := id rfl
theorem gd17 {x0 x1 x2 x3 x4 x5 x6 x7 x8 x9 x10 x11 x12 x13 x14 x15 x16 x17 : α} {r : List α} : List.getD (x0 :: x1 :: x2 :: x3 :: x4 :: x5 :: x6 :: x7 :: x8 :: x9 :: x10 :: x11 :: x12 :: x13 :: x14 :: x15 :: x16 :: x17 :: r) 17 d = x17 := id rfl
theorem gd18 {x0 x1 x2 x3 x4 x5 x6 x7 x8 x9 x10 x11 x12 x13 x14 x15 x16 x17 x18 : α} {r : List α} : List.getD (x0 :: x1 :: x2 :: x3 :: x4 :: x5 :: x6 :: x7 :: x8 :: x9 :: x10 :: x11 :: x12 :: x13 :: x14 :: x15 :: x16 :: x17 :: x18 :: r) 18 d = x18 := id rfl
theorem gd19 {x0 x1 x2 x3 x4 x5 x6 x7 x8 x9 x10 x11 x12 x13 x14 x15 x16 x17 x18 x19 : α} {r : List α} : List.getD (x0 :: x1 :: x2 :: x3 :: x4 :: x5 :: x6 :: x7 :: x8 :: x9 :: x10 :: x11 :: x12 :: x13 :: x14 :: x15 :: x16 :: x17 :: x18 :: x19 :: r) 19 d = x19 := id rfl
theorem gd20 {x0 x1 x2 x3 x4 x5 x6 x7 x8 x9 x10 x11 x12 x13 x14 x15 x16 x17 x18 x19 x20 : α} {r : List α} : List.getD (x0 :: x1 :: x2 :: x3 :: x4 :: x5 :: x6 :: x7 :: x8 :: x9 :: x10 :: x11 :: x12 :: x13 :: x14 :: x15 :: x16 :: x17 :: x18 :: x19 :: x20 :: r) 20 d = x20 := id rfl
theorem gd21 {x0 x1 x2 x3 x4 x5 x6 x7 x8 x9 x10 x11 x12 x13 x14 x15 x16 x17 x18 x19 x20 x21 : α} {r : List α} : List.getD (x0 :: x1 :: x2 :: x3 :: x4 :: x5 :: x6 :: x7 :: x8 :: x9 :: x10 :: x11 :: x12 :: x13 :: x14 :: x15 :: x16 :: x17 :: x18 :: x19 :: x20 :: x21 :: r) 21 d = x21 := id rfl
theorem gd22 {x0 x1 x2 x3 x4 x5 x6 x7 x8 x9 x10 x11 x12 x13 x14 x15 x16 x17 x18 x19 x20 x21 x22 : α} {r : List α} : List.getD (x0 :: x1 :: x2 :: x3 :: x4 :: x5 :: x6 :: x7 :: x8 :: x9 :: x10 :: x11 :: x12 :: x13 :: x14 :: x15 :: x16 :: x17 :: x18 :: x19 :: x20 :: x21 :: x22 :: r) 22 d = x22 := id rfl
theorem gd23 {x0 x1 x2 x3 x4 x5 x6 x7 x8 x9 x10 x11 x12 x13 x14 x15 x16 x17 x18 x19 x20 x21 x22 x23 : α} {r : List α} : List.getD (x0 :: x1 :: x2 :: x3 :: x4 :: x5 :: x6 :: x7 :: x8 :: x9 :: x10 :: x11 :: x12 :: x13 :: x14 :: x15 :: x16 :: x17 :: x18 :: x19 :: x20 :: x21 :: x22 :: x23 :: r) 23 d = x23 := id rfl
theorem gd24 {x0 x1 x2 x3 x4 x5 x6 x7 x8 x9 x10 x11 x12 x13 x14 x15 x16 x17 x18 x19 x20 x21 x22 x23 x24 : α} {r : List α} : List.getD (x0 :: x1 :: x2 :: x3 :: x4 :: x5 :: x6 :: x7 :: x8 :: x9 :: x10 :: x11 :: x12 :: x13 :: x14 :: x15 :: x16 :: x17 :: x18 :: x19 :: x20 :: x21 :: x22 :: x23 :: x24 :: r) 24 d = x24 := id rfl
theorem gd25 {x0 x1 x2 x3 x4 x5 x6 x7 x8 x9 x10 x11 x12 x13 x14 x15 x16 x17 x18 x19 x20 x21 x22 x23 x24 x25 : α} {r : List α} : List.getD (x0 :: x1 :: x2 :: x3 :: x4 :: x5 :: x6 :: x7 :: x8 :: x9 :: x10 :: x11 :: x12 :: x13 :: x14 :: x15 :: x16 :: x17 :: x18 :: x19 :: x20 :: x21 :: x22 :: x23 :: x24 :: x25 :: r) 25 d = x25 := id rfl
theorem gd26 {x0 x1 x2 x3 x4 x5 x6 x7 x8 x9 x10 x11 x12 x13 x14 x15 x16 x17 x18 x19 x20 x21 x22 x23 x24 x25 x26 : α} {r : List α} : List.getD (x0 :: x1 :: x2 :: x3 :: x4 :: x5 :: x6 :: x7 :: x8 :: x9 :: x10 :: x11 :: x12 :: x13 :: x14 :: x15 :: x16 :: x17 :: x18 :: x19 :: x20 :: x21 :: x22 :: x23 :: x24 :: x25 :: x26 :: r) 26 d = x26 := id rfl
theorem gd27 {x0 x1 x2 x3 x4 x5 x6 x7 x8 x9 x10 x11 x12 x13 x14 x15 x16 x17 x18 x19 x20 x21 x22 x23 x24 x25 x26 x27 : α} {r : List α} : List.getD (x0 :: x1 :: x2 :: x3 :: x4 :: x5 :: x6 :: x7 :: x8 :: x9 :: x10 :: x11 :: x12 :: x13 :: x14 :: x15 :: x16 :: x17 :: x18 :: x19 :: x20 :: x21 :: x22 :: x23 :: x24 :: x25 :: x26 :: x27 :: r) 27 d = x27 := id rfl
theorem gd28 {x0 x1 x2 x3 x4 x5 x6 x7 x8 x9 x10 x11 x12 x13 x14 x15 x16 x17 x18 x19 x20 x21 x22 x23 x24 x25 x26 x27 x28 : α} {r : List α} : List.getD (x0 :: x1 :: x2 :: x3 :: x4 :: x5 :: x6 :: x7 :: x8 :: x9 :: x10 :: x11 :: x12 :: x13 :: x14 :: x15 :: x16 :: x17 :: x18 :: x19 :: x20 :: x21 :: x22 :: x23 :: x24 :: x25 :: x26 :: x27 :: x28 :: r) 28 d = x28 := id rfl
theorem gd29 {x0 x1 x2 x3 x4 x5 x6 x7 x8 x9 x10 x11 x12 x13 x14 x15 x16 x17 x18 x19 x20 x21 x22 x23 x24 x25 x26 x27 x28 x29 : α} {r : List α} : List.getD (x0 :: x1 :: x2 :: x3 :: x4 :: x5 :: x6 :: x7 :: x8 :: x9 :: x10 :: x11 :: x12 :: x13 :: x14 :: x15 :: x16 :: x17 :: x18 :: x19 :: x20 :: x21 :: x22 :: x23 :: x24 :: x25 :: x26 :: x27 :: x28 :: x29 :: r) 29 d = x29 := id rfl
theorem gd30 {x0 x1 x2 x3 x4 x5 x6 x7 x8 x9 x10 x11 x12 x13 x14 x15 x16 x17 x18 x19 x20 x21 x22 x23 x24 x25 x26 x27 x28 x29 x30 : α} {r : List α} : List.getD (x0 :: x1 :: x2 :: x3 :: x4 :: x5 :: x6 :: x7 :: x8 :: x9 :: x10 :: x11 :: x12 :: x13 :: x14 :: x15 :: x16 :: x17 :: x18 :: x19 :: x20 :: x21 :: x22 :: x23 :: x24 :: x25 :: x26 :: x27 :: x28 :: x29 :: x30 :: r) 30 d = x30 := id rfl
theorem gd31 {x0 x1 x2 x3 x4 x5 x6 x7 x8 x9 x10 x11 x12 x13 x14 x15 x16 x17 x18 x19 x20 x21 x22 x23 x24 x25 x26 x27 x28 x29 x30 x31 : α} {r : List α} : List.getD (x0 :: x1 :: x2 :: x3 :: x4 :: x5 :: x6 :: x7 :: x8 :: x9 :: x10 :: x11 :: x12 :: x13 :: x14 :: x15 :: x16 :: x17 :: x18 :: x19 :: x20 :: x21 :: x22 :: x23 :: x24 :: x25 :: x26 :: x27 :: x28 :: x29 :: x30 :: x31 :: r) 31 d = x31 := id rfl
theorem gd32 {x0 x1 x2 x3 x4 x5 x6 x7 x8 x9 x10 x11 x12 x13 x14 x15 x16 x17 x18 x19 x20 x21 x22 x23 x24 x25 x26 x27 x28 x29 x30 x31 x32 : α} {r : List α} : List.getD (x0 :: x1 :: x2 :: x3 :: x4 :: x5 :: x6 :: x7 :: x8 :: x9 :: x10 :: x11 :: x12 :: x13 :: x14 :: x15 :: x16 :: x17 :: x18 :: x19 :: x20 :: x21 :: x22 :: x23 :: x24 :: x25 :: x26 :: x27 :: x28 :: x29 :: x30 :: x31 :: x32 :: r) 32 d = x32 := id rfl
theorem gd33 {x0 x1 x2 x3 x4 x5 x6 x7 x8 x9 x10 x11 x12 x13 x14 x15 x16 x17 x18 x19 x20 x21 x22 x23 x24 x25 x26 x27 x28 x29 x30 x31 x32 x33 : α} {r : List α} : List.getD (x0 :: x1 :: x2 :: x3 :: x4 :: x5 :: x6 :: x7 :: x8 :: x9 :: x10 :: x11 :: x12 :: x13 :: x14 :: x15 :: x16 :: x17 :: x18 :: x19 :: x20 :: x21 :: x22 :: x23 :: x24 :: x25 :: x26 :: x27 :: x28 :: x29 :: x30 :: x31 :: x32 :: x33 :: r) 33 d = x33 := id rfl
theorem gd34 {x0 x1 x2 x3 x4 x5 x6 x7 x8 x9 x10 x11 x12 x13 x14 x15 x16 x17 x18 x19 x20 x21 x22 x23 x24 x25 x26 x27 x28 x29 x30 x31 x32 x33 x34 : α} {r : List α} : List.getD (x0 :: x1 :: x2 :: x3 :: x4 :: x5 :: x6 :: x7 :: x8 :: x9 :: x10 :: x11 :: x12 :: x13 :: x14 :: x15 :: x16 :: x17 :: x18 :: x19 :: x20 :: x21 :: x22 :: x23 :: x24 :: x25 :: x26 :: x27 :: x28 :: x29 :: x30 :: x31 :: x32 :: x33 :: x34 :: r) 34 d = x34 := id rfl
theorem gd35 {x0 x1 x2 x3 x4 x5 x6 x7 x8 x9 x10 x11 x12 x13 x14 x15 x16 x17 x18 x19 x20 x21 x22 x23 x24 x25 x26 x27 x28 x29 x30 x31 x32 x33 x34 x35 : α} {r : List α} : List.getD (x0 :: x1 :: x2 :: x3 :: x4 :: x5 :: x6 :: x7 :: x8 :: x9 :: x10 :: x11 :: x12 :: x13 :: x14 :: x15 :: x16 :: x17 :: x18 :: x19 :: x20 :: x21 :: x22 :: x23 :: x24 :: x25 :: x26 :: x27 :: x28 :: x29 :: x30 :: x31 :: x32 :: x33 :: x34 :: x35 :: r) 35 d = x35 := id rfl
theorem gd36 {x0 x1 x2 x3 x4 x5 x6 x7 x8 x9 x10 x11 x12 x13 x14 x15 x16 x17 x18 x19 x20 x21 x22 x23 x24 x25 x26 x27 x28 x29 x30 x31 x32 x33 x34 x35 x36 : α} {r : List α} : List.getD (x0 :: x1 :: x2 :: x3 :: x4 :: x5 :: x6 :: x7 :: x8 :: x9 :: x10 :: x11 :: x12 :: x13 :: x14 :: x15 :: x16 :: x17 :: x18 :: x19 :: x20 :: x21 :: x22 :: x23 :: x24 :: x25 :: x26 :: x27 :: x28 :: x29 :: x30 :: x31 :: x32 :: x33 :: x34 :: x35 :: x36 :: r) 36 d = x36 := id rfl
theorem gd37 {x0 x1 x2 x3 x4 x5 x6 x7 x8 x9 x10 x11 x12 x13 x14 x15 x16 x17 x18 x19 x20 x21 x22 x23 x24 x25 x26 x27 x28 x29 x30 x31 x32 x33 x34 x35 x36 x37 : α} {r : List α} : List.getD (x0 :: x1 :: x2 :: x3 :: x4 :: x5 :: x6 :: x7 :: x8 :: x9 :: x10 :: x11 :: x12 :: x13 :: x14 :: x15 :: x16 :: x17 :: x18 :: x19 :: x20 :: x21 :: x22 :: x23 :: x24 :: x25 :: x26 :: x27 :: x28 :: x29 :: x30 :: x31 :: x32 :: x33 :: x34 :: x35 :: x36 :: x37 :: r) 37 d = x37 := id rfl
theorem gd38 {x0 x1 x2 x3 x4 x5 x6 x7 x8 x9 x10 x11 x12 x13 x14 x15 x16 x17 x18 x19 x20 x21 x22 x23 x24 x25 x26 x27 x28 x29 x30 x31 x32 x33 x34 x35 x36 x37 x38 : α} {r : List α} : List.getD (x0 :: x1 :: x2 :: x3 :: x4 :: x5 :: x6 :: x7 :: x8 :: x9 :: x10 :: x11 :: x12 :: x13 :: x14 :: x15 :: x16 :: x17 :: x18 :: x19 :: x20 :: x21 :: x22 :: x23 :: x24 :: x25 :: x26 :: x27 :: x28 :: x29 :: x30 :: x31 :: x32 :: x33 :: x34 :: x35 :: x36 :: x37 :: x38 :: r) 38 d = x38 := id rfl
theorem gd39 {x0 x1 x2 x3 x4 x5 x6 x7 x8 x9 x10 x11 x12 x13 x14 x15 x16 x17 x18 x19 x20 x21 x22 x23 x24 x25 x26 x27 x28 x29 x30 x31 x32 x33 x34 x35 x36 x37 x38 x39 : α} {r : List α} : List.getD (x0 :: x1 :: x2 :: x3 :: x4 :: x5 :: x6 :: x7 :: x8 :: x9 :: x10 :: x11 :: x12 :: x13 :: x14 :: x15 :: x16 :: x17 :: x18 :: x19 :: x20 :: x21 :: x22 :: x23 :: x24 :: x25 :: x26 :: x27 :: x28 :: x29 :: x30 :: x31 :: x32 :: x33 :: x34 :: x35 :: x36 :: x37 :: x38 :: x39 :: r) 39 d = x39 := id rfl
theorem gd40 {x0 x1 x2 x3 x4 x5 x6 x7 x8 x9 x10 x11 x12 x13 x14 x15 x16 x17 x18 x19 x20 x21 x22 x23 x24 x25 x26 x27 x28 x29 x30 x31 x32 x33 x34 x35 x36 x37 x38 x39 x40 : α} {r : List α} : List.getD (x0 :: x1 :: x2 :: x3 :: x4 :: x5 :: x6 :: x7 :: x8 :: x9 :: x10 :: x11 :: x12 :: x13 :: x14 :: x15 :: x16 :: x17 :: x18 :: x19 :: x20 :: x21 :: x22 :: x23 :: x24 :: x25 :: x26 :: x27 :: x28 :: x29 :: x30 :: x31 :: x32 :: x33 :: x34 :: x35 :: x36 :: x37 :: x38 :: x39 :: x40 :: r) 40 d = x40 := id rfl
theorem gd41 {x0 x1 x2 x3 x4 x5 x6 x7 x8 x9 x10 x11 x12 x13 x14 x15 x16 x17 x18 x19 x20 x21 x22 x23 x24 x25 x26 x27 x28 x29 x30 x31 x32 x33 x34 x35 x36 x37 x38 x39 x40 x41 : α} {r : List α} : List.getD (x0 :: x1 :: x2 :: x3 :: x4 :: x5 :: x6 :: x7 :: x8 :: x9 :: x10 :: x11 :: x12 :: x13 :: x14 :: x15 :: x16 :: x17 :: x18 :: x19 :: x20 :: x21 :: x22 :: x23 :: x24 :: x25 :: x26 :: x27 :: x28 :: x29 :: x30 :: x31 :: x32 :: x33 :: x34 :: x35 :: x36 :: x37 :: x38 :: x39 :: x40 :: x41 :: r) 41 d = x41 := id rfl
theorem gd42 {x0 x1 x2 x3 x4 x5 x6 x7 x8 x9 x10 x11 x12 x13 x14 x15 x16 x17 x18 x19 x20 x21 x22 x23 x24 x25 x26 x27 x28 x29 x30 x31 x32 x33 x34 x35 x36 x37 x38 x39 x40 x41 x42 : α} {r : List α} : List.getD (x0 :: x1 :: x2 :: x3 :: x4 :: x5 :: x6 :: x7 :: x8 :: x9 :: x10 :: x11 :: x12 :: x13 :: x14 :: x15 :: x16 :: x17 :: x18 :: x19 :: x20 :: x21 :: x22 :: x23 :: x24 :: x25 :: x26 :: x27 :: x28 :: x29 :: x30 :: x31 :: x32 :: x33 :: x34 :: x35 :: x36 :: x37 :: x38 :: x39 :: x40 :: x41 :: x42 :: r) 42 d = x42 := id rfl
theorem gd43 {x0 x1 x2 x3 x4 x5 x6 x7 x8 x9 x10 x11 x12 x13 x14 x15 x16 x17 x18 x19 x20 x21 x22 x23 x24 x25 x26 x27 x28 x29 x30 x31 x32 x33 x34 x35 x36 x37 x38 x39 x40 x41 x42 x43 : α} {r : List α} : List.getD (x0 :: x1 :: x2 :: x3 :: x4 :: x5 :: x6 :: x7 :: x8 :: x9 :: x10 :: x11 :: x12 :: x13 :: x14 :: x15 :: x16 :: x17 :: x18 :: x19 :: x20 :: x21 :: x22 :: x23 :: x24 :: x25 :: x26 :: x27 :: x28 :: x29 :: x30 :: x31 :: x32 :: x33 :: x34 :: x35 :: x36 :: x37 :: x38 :: x39 :: x40 :: x41 :: x42 :: x43 :: r) 43 d = x43 := id rfl
theorem gd44 {x0 x1 x2 x3 x4 x5 x6 x7 x8 x9 x10 x11 x12 x13 x14 x15 x16 x17 x18 x19 x20 x21 x22 x23 x24 x25 x26 x27 x28 x29 x30 x31 x32 x33 x34 x35 x36 x37 x38 x39 x40 x41 x42 x43 x44 : α} {r : List α} : List.getD (x0 :: x1 :: x2 :: x3 :: x4 :: x5 :: x6 :: x7 :: x8 :: x9 :: x10 :: x11 :: x12 :: x13 :: x14 :: x15 :: x16 :: x17 :: x18 :: x19 :: x20 :: x21 :: x22 :: x23 :: x24 :: x25 :: x26 :: x27 :: x28 :: x29 :: x30 :: x31 :: x32 :: x33 :: x34 :: x35 :: x36 :: x37 :: x38 :: x39 :: x40 :: x41 :: x42 :: x43 :: x44 :: r) 44 d = x44 := id rfl
theorem gd45 {x0 x1 x2 x3 x4 x5 x6 x7 x8 x9 x10 x11 x12 x13 x14 x15 x16 x17 x18 x19 x20 x21 x22 x23 x24 x25 x26 x27 x28 x29 x30 x31 x32 x33 x34 x35 x36 x37 x38 x39 x40 x41 x42 x43 x44 x45 : α} {r : List α} : List.getD (x0 :: x1 :: x2 :: x3 :: x4 :: x5 :: x6 :: x7 :: x8 :: x9 :: x10 :: x11 :: x12 :: x13 :: x14 :: x15 :: x16 :: x17 :: x18 :: x19 :: x20 :: x21 :: x22 :: x23 :: x24 :: x25 :: x26 :: x27 :: x28 :: x29 :: x30 :: x31 :: x32 :: x33 :: x34 :: x35 :: x36 :: x37 :: x38 :: x39 :: x40 :: x41 :: x42 :: x43 :: x44 :: x45 :: r) 45 d = x45 := id rfl
theorem gd46 {x0 x1 x2 x3 x4 x5 x6 x7 x8 x9 x10 x11 x12 x13 x14 x15 x16 x17 x18 x19 x20 x21 x22 x23 x24 x25 x26 x27 x28 x29 x30 x31 x32 x33 x34 x35 x36 x37 x38 x39 x40 x41 x42 x43 x44 x45 x46 : α} {r : List α} : List.getD (x0 :: x1 :: x2 :: x3 :: x4 :: x5 :: x6 :: x7 :: x8 :: x9 :: x10 :: x11 :: x12 :: x13 :: x14 :: x15 :: x16 :: x17 :: x18 :: x19 :: x20 :: x21 :: x22 :: x23 :: x24 :: x25 :: x26 :: x27 :: x28 :: x29 :: x30 :: x31 :: x32 :: x33 :: x34 :: x35 :: x36 :: x37 :: x38 :: x39 :: x40 :: x41 :: x42 :: x43 :: x44 :: x45 :: x46 :: r) 46 d = x46 := id rfl
theorem gd47 {x0 x1 x2 x3 x4 x5 x6 x7 x8 x9 x10 x11 x12 x13 x14 x15 x16 x17 x18 x19 x20 x21 x22 x23 x24 x25 x26 x27 x28 x29 x30 x31 x32 x33 x34 x35 x36 x37 x38 x39 x40 x41 x42 x43 x44 x45 x46 x47 : α} {r : List α} : List.getD (x0 :: x1 :: x2 :: x3 :: x4 :: x5 :: x6 :: x7 :: x8 :: x9 :: x10 :: x11 :: x12 :: x13 :: x14 :: x15 :: x16 :: x17 :: x18 :: x19 :: x20 :: x21 :: x22 :: x23 :: x24 :: x25 :: x26 :: x27 :: x28 :: x29 :: x30 :: x31 :: x32 :: x33 :: x34 :: x35 :: x36 :: x37 :: x38 :: x39 :: x40 :: x41 :: x42 :: x43 :: x44 :: x45 :: x46 :: x47 :: r) 47 d = x47 := id rfl
theorem gd48 {x0 x1 x2 x3 x4 x5 x6 x7 x8 x9 x10 x11 x12 x13 x14 x15 x16 x17 x18 x19 x20 x21 x22 x23 x24 x25 x26 x27 x28 x29 x30 x31 x32 x33 x34 x35 x36 x37 x38 x39 x40 x41 x42 x43 x44 x45 x46 x47 x48 : α} {r : List α} : List.getD (x0 :: x1 :: x2 :: x3 :: x4 :: x5 :: x6 :: x7 :: x8 :: x9 :: x10 :: x11 :: x12 :: x13 :: x14 :: x15 :: x16 :: x17 :: x18 :: x19 :: x20 :: x21 :: x22 :: x23 :: x24 :: x25 :: x26 :: x27 :: x28 :: x29 :: x30 :: x31 :: x32 :: x33 :: x34 :: x35 :: x36 :: x37 :: x38 :: x39 :: x40 :: x41 :: x42 :: x43 :: x44 :: x45 :: x46 :: x47 :: x48 :: r) 48 d = x48 := id rfl
theorem gd49 {x0 x1 x2 x3 x4 x5 x6 x7 x8 x9 x10 x11 x12 x13 x14 x15 x16 x17 x18 x19 x20 x21 x22 x23 x24 x25 x26 x27 x28 x29 x30 x31 x32 x33 x34 x35 x36 x37 x38 x39 x40 x41 x42 x43 x44 x45 x46 x47 x48 x49 : α} {r : List α} : List.getD (x0 :: x1 :: x2 :: x3 :: x4 :: x5 :: x6 :: x7 :: x8 :: x9 :: x10 :: x11 :: x12 :: x13 :: x14 :: x15 :: x16 :: x17 :: x18 :: x19 :: x20 :: x21 :: x22 :: x23 :: x24 :: x25 :: x26 :: x27 :: x28 :: x29 :: x30 :: x31 :: x32 :: x33 :: x34 :: x35 :: x36 :: x37 :: x38 :: x39 :: x40 :: x41 :: x42 :: x43 :: x44 :: x45 :: x46 :: x47 :: x48 :: x49 :: r) 49 d = x49 := id rfl
theorem gd50 {x0 x1 x2 x3 x4 x5 x6 x7 x8 x9 x10 x11 x12 x13 x14 x15 x16 x17 x18 x19 x20 x21 x22 x23 x24 x25 x26 x27 x28 x29 x30 x31 x32 x33 x34 x35 x36 x37 x38 x39 x40 x41 x42 x43 x44 x45 x46 x47 x48 x49 x50 : α} {r : List α} : List.getD (x0 :: x1 :: x2 :: x3 :: x4 :: x5 :: x6 :: x7 :: x8 :: x9 :: x10 :: x11 :: x12 :: x13 :: x14 :: x15 :: x16 :: x17 :: x18 :: x19 :: x20 :: x21 :: x22 :: x23 :: x24 :: x25 :: x26 :: x27 :: x28 :: x29 :: x30 :: x31 :: x32 :: x33 :: x34 :: x35 :: x36 :: x37 :: x38 :: x39 :: x40 :: x41 :: x42 :: x43 :: x44 :: x45 :: x46 :: x47 :: x48 :: x49 :: x50 :: r) 50 d = x50 := id rfl
theorem gd51 {x0 x1 x2 x3 x4 x5 x6 x7 x8 x9 x10 x11 x12 x13 x14 x15 x16 x17 x18 x19 x20 x21 x22 x23 x24 x25 x26 x27 x28 x29 x30 x31 x32 x33 x34 x35 x36 x37 x38 x39 x40 x41 x42 x43 x44 x45 x46 x47 x48 x49 x50 x51 : α} {r : List α} : List.getD (x0 :: x1 :: x2 :: x3 :: x4 :: x5 :: x6 :: x7 :: x8 :: x9 :: x10 :: x11 :: x12 :: x13 :: x14 :: x15 :: x16 :: x17 :: x18 :: x19 :: x20 :: x21 :: x22 :: x23 :: x24 :: x25 :: x26 :: x27 :: x28 :: x29 :: x30 :: x31 :: x32 :: x33 :: x34 :: x35 :: x36 :: x37 :: x38 :: x39 :: x40 :: x41 :: x42 :: x43 :: x44 :: x45 :: x46 :: x47 :: x48 :: x49 :: x50 :: x51 :: r) 51 d = x51 := id rfl
theorem gd52 {x0 x1 x2 x3 x4 x5 x6 x7 x8 x9 x10 x11 x12 x13 x14 x15 x16 x17 x18 x19 x20 x21 x22 x23 x24 x25 x26 x27 x28 x29 x30 x31 x32 x33 x34 x35 x36 x37 x38 x39 x40 x41 x42 x43 x44 x45 x46 x47 x48 x49 x50 x51 x52 : α} {r : List α} : List.getD (x0 :: x1 :: x2 :: x3 :: x4 :: x5 :: x6 :: x7 :: x8 :: x9 :: x10 :: x11 :: x12 :: x13 :: x14 :: x15 :: x16 :: x17 :: x18 :: x19 :: x20 :: x21 :: x22 :: x23 :: x24 :: x25 :: x26 :: x27 :: x28 :: x29 :: x30 :: x31 :: x32 :: x33 :: x34 :: x35 :: x36 :: x37 :: x38 :: x39 :: x40 :: x41 :: x42 :: x43 :: x44 :: x45 :: x46 :: x47 :: x48 :: x49 :: x50 :: x51 :: x52 :: r) 52 d = x52 := id rfl
theorem gd53 {x0 x1 x2 x3 x4 x5 x6 x7 x8 x9 x10 x11 x12 x13 x14 x15 x16 x17 x18 x19 x20 x21 x22 x23 x24 x25 x26 x27 x28 x29 x30 x31 x32 x33 x34 x35 x36 x37 x38 x39 x40 x41 x42 x43 x44 x45 x46 x47 x48 x49 x50 x51 x52 x53 : α} {r : List α} : List.getD (x0 :: x1 :: x2 :: x3 :: x4 :: x5 :: x6 :: x7 :: x8 :: x9 :: x10 :: x11 :: x12 :: x13 :: x14 :: x15 :: x16 :: x17 :: x18 :: x19 :: x20 :: x21 :: x22 :: x23 :: x24 :: x25 :: x26 :: x27 :: x28 :: x29 :: x30 :: x31 :: x32 :: x33 :: x34 :: x35 :: x36 :: x37 :: x38 :: x39 :: x40 :: x41 :: x42 :: x43 :: x44 :: x45 :: x46 :: x47 :: x48 :: x49 :: x50 :: x51 :: x52 :: x53 :: r) 53 d = x53 := id rfl
theorem gd54 {x0 x1 x2 x3 x4 x5 x6 x7 x8 x9 x10 x11 x12 x13 x14 x15 x16 x17 x18 x19 x20 x21 x22 x23 x24 x25 x26 x27 x28 x29 x30 x31 x32 x33 x34 x35 x36 x37 x38 x39 x40 x41 x42 x43 x44 x45 x46 x47 x48 x49 x50 x51 x52 x53 x54 : α} {r : List α} : List.getD (x0 :: x1 :: x2 :: x3 :: x4 :: x5 :: x6 :: x7 :: x8 :: x9 :: x10 :: x11 :: x12 :: x13 :: x14 :: x15 :: x16 :: x17 :: x18 :: x19 :: x20 :: x21 :: x22 :: x23 :: x24 :: x25 :: x26 :: x27 :: x28 :: x29 :: x30 :: x31 :: x32 :: x33 :: x34 :: x35 :: x36 :: x37 :: x38 :: x39 :: x40 :: x41 :: x42 :: x43 :: x44 :: x45 :: x46 :: x47 :: x48 :: x49 :: x50 :: x51 :: x52 :: x53 :: x54 :: r) 54 d = x54 := id rfl
theorem gd55 {x0 x1 x2 x3 x4 x5 x6 x7 x8 x9 x10 x11 x12 x13 x14 x15 x16 x17 x18 x19 x20 x21 x22 x23 x24 x25 x26 x27 x28 x29 x30 x31 x32 x33 x34 x35 x36 x37 x38 x39 x40 x41 x42 x43 x44 x45 x46 x47 x48 x49 x50 x51 x52 x53 x54 x55 : α} {r : List α} : List.getD (x0 :: x1 :: x2 :: x3 :: x4 :: x5 :: x6 :: x7 :: x8 :: x9 :: x10 :: x11 :: x12 :: x13 :: x14 :: x15 :: x16 :: x17 :: x18 :: x19 :: x20 :: x21 :: x22 :: x23 :: x24 :: x25 :: x26 :: x27 :: x28 :: x29 :: x30 :: x31 :: x32 :: x33 :: x34 :: x35 :: x36 :: x37 :: x38 :: x39 :: x40 :: x41 :: x42 :: x43 :: x44 :: x45 :: x46 :: x47 :: x48 :: x49 :: x50 :: x51 :: x52 :: x53 :: x54 :: x55 :: r) 55 d = x55 := id rfl
theorem gd56 {x0 x1 x2 x3 x4 x5 x6 x7 x8 x9 x10 x11 x12 x13 x14 x15 x16 x17 x18 x19 x20 x21 x22 x23 x24 x25 x26 x27 x28 x29 x30 x31 x32 x33 x34 x35 x36 x37 x38 x39 x40 x41 x42 x43 x44 x45 x46 x47 x48 x49 x50 x51 x52 x53 x54 x55 x56 : α} {r : List α} : List.getD (x0 :: x1 :: x2 :: x3 :: x4 :: x5 :: x6 :: x7 :: x8 :: x9 :: x10 :: x11 :: x12 :: x13 :: x14 :: x15 :: x16 :: x17 :: x18 :: x19 :: x20 :: x21 :: x22 :: x23 :: x24 :: x25 :: x26 :: x27 :: x28 :: x29 :: x30 :: x31 :: x32 :: x33 :: x34 :: x35 :: x36 :: x37 :: x38 :: x39 :: x40 :: x41 :: x42 :: x43 :: x44 :: x45 :: x46 :: x47 :: x48 :: x49 :: x50 :: x51 :: x52 :: x53 :: x54 :: x55 :: x56 :: r) 56 d = x56 := id rfl
theorem gd57 {x0 x1 x2 x3 x4 x5 x6 x7 x8 x9 x10 x11 x12 x13 x14 x15 x16 x17 x18 x19 x20 x21 x22 x23 x24 x25 x26 x27 x28 x29 x30 x31 x32 x33 x34 x35 x36 x37 x38 x39 x40 x41 x42 x43 x44 x45 x46 x47 x48 x49 x50 x51 x52 x53 x54 x55 x56 x57 : α} {r : List α} : List.getD (x0 :: x1 :: x2 :: x3 :: x4 :: x5 :: x6 :: x7 :: x8 :: x9 :: x10 :: x11 :: x12 :: x13 :: x14 :: x15 :: x16 :: x17 :: x18 :: x19 :: x20 :: x21 :: x22 :: x23 :: x24 :: x25 :: x26 :: x27 :: x28 :: x29 :: x30 :: x31 :: x32 :: x33 :: x34 :: x35 :: x36 :: x37 :: x38 :: x39 :: x40 :: x41 :: x42 :: x43 :: x44 :: x45 :: x46 :: x47 :: x48 :: x49 :: x50 :: x51 :: x52 :: x53 :: x54 :: x55 :: x56 :: x57 :: r) 57 d = x57 := id rfl
theorem gd58 {x0 x1 x2 x3 x4 x5 x6 x7 x8 x9 x10 x11 x12 x13 x14 x15 x16 x17 x18 x19 x20 x21 x22 x23 x24 x25 x26 x27 x28 x29 x30 x31 x32 x33 x34 x35 x36 x37 x38 x39 x40 x41 x42 x43 x44 x45 x46 x47 x48 x49 x50 x51 x52 x53 x54 x55 x56 x57 x58 : α} {r : List α} : List.getD (x0 :: x1 :: x2 :: x3 :: x4 :: x5 :: x6 :: x7 :: x8 :: x9 :: x10 :: x11 :: x12 :: x13 :: x14 :: x15 :: x16 :: x17 :: x18 :: x19 :: x20 :: x21 :: x22 :: x23 :: x24 :: x25 :: x26 :: x27 :: x28 :: x29 :: x30 :: x31 :: x32 :: x33 :: x34 :: x35 :: x36 :: x37 :: x38 :: x39 :: x40 :: x41 :: x42 :: x43 :: x44 :: x45 :: x46 :: x47 :: x48 :: x49 :: x50 :: x51 :: x52 :: x53 :: x54 :: x55 :: x56 :: x57 :: x58 :: r) 58 d = x58 := id rfl
theorem gd59 {x0 x1 x2 x3 x4 x5 x6 x7 x8 x9 x10 x11 x12 x13 x14 x15 x16 x17 x18 x19 x20 x21 x22 x23 x24 x25 x26 x27 x28 x29 x30 x31 x32 x33 x34 x35 x36 x37 x38 x39 x40 x41 x42 x43 x44 x45 x46 x47 x48 x49 x50 x51 x52 x53 x54 x55 x56 x57 x58 x59 : α} {r : List α} : List.getD (x0 :: x1 :: x2 :: x3 :: x4 :: x5 :: x6 :: x7 :: x8 :: x9 :: x10 :: x11 :: x12 :: x13 :: x14 :: x15 :: x16 :: x17 :: x18 :: x19 :: x20 :: x21 :: x22 :: x23 :: x24 :: x25 :: x26 :: x27 :: x28 :: x29 :: x30 :: x31 :: x32 :: x33 :: x34 :: x35 :: x36 :: x37 :: x38 :: x39 :: x40 :: x41 :: x42 :: x43 :: x44 :: x45 :: x46 :: x47 :: x48 :: x49 :: x50 :: x51 :: x52 :: x53 :: x54 :: x55 :: x56 :: x57 :: x58 :: x59 :: r) 59 d = x59 := id rfl
theorem gd60 {x0 x1 x2 x3 x4 x5 x6 x7 x8 x9 x10 x11 x12 x13 x14 x15 x16 x17 x18 x19 x20 x21 x22 x23 x24 x25 x26 x27 x28 x29 x30 x31 x32 x33 x34 x35 x36 x37 x38 x39 x40 x41 x42 x43 x44 x45 x46 x47 x48 x49 x50 x51 x52 x53 x54 x55 x56 x57 x58 x59 x60 : α} {r : List α} : List.getD (x0 :: x1 :: x2 :: x3 :: x4 :: x5 :: x6 :: x7 :: x8 :: x9 :: x10 :: x11 :: x12 :: x13 :: x14 :: x15 :: x16 :: x17 :: x18 :: x19 :: x20 :: x21 :: x22 :: x23 :: x24 :: x25 :: x26 :: x27 :: x28 :: x29 :: x30 :: x31 :: x32 :: x33 :: x34 :: x35 :: x36 :: x37 :: x38 :: x39 :: x40 :: x41 :: x42 :: x43 :: x44 :: x45 :: x46 :: x47 :: x48 :: x49 :: x50 :: x51 :: x52 :: x53 :: x54 :: x55 :: x56 :: x57 :: x58 :: x59 :: x60 :: r) 60 d = x60 := id rfl
theorem gd61 {x0 x1 x2 x3 x4 x5 x6 x7 x8 x9 x10 x11 x12 x13 x14 x15 x16 x17 x18 x19 x20 x21 x22 x23 x24 x25 x26 x27 x28 x29 x30 x31 x32 x33 x34 x35 x36 x37 x38 x39 x40 x41 x42 x43 x44 x45 x46 x47 x48 x49 x50 x51 x52 x53 x54 x55 x56 x57 x58 x59 x60 x61 : α} {r : List α} : List.getD (x0 :: x1 :: x2 :: x3 :: x4 :: x5 :: x6 :: x7 :: x8 :: x9 :: x10 :: x11 :: x12 :: x13 :: x14 :: x15 :: x16 :: x17 :: x18 :: x19 :: x20 :: x21 :: x22 :: x23 :: x24 :: x25 :: x26 :: x27 :: x28 :: x29 :: x30 :: x31 :: x32 :: x33 :: x34 :: x35 :: x36 :: x37 :: x38 :: x39 :: x40 :: x41 :: x42 :: x43 :: x44 :: x45 :: x46 :: x47 :: x48 :: x49 :: x50 :: x51 :: x52 :: x53 :: x54 :: x55 :: x56 :: x57 :: x58 :: x59 :: x60 :: x61 :: r) 61 d = x61 := id rfl
theorem gd62 {x0 x1 x2 x3 x4 x5 x6 x7 x8 x9 x10 x11 x12 x13 x14 x15 x16 x17 x18 x19 x20 x21 x22 x23 x24 x25 x26 x27 x28 x29 x30 x31 x32 x33 x34 x35 x36 x37 x38 x39 x40 x41 x42 x43 x44 x45 x46 x47 x48 x49 x50 x51 x52 x53 x54 x55 x56 x57 x58 x59 x60 x61 x62 : α} {r : List α} : List.getD (x0 :: x1 :: x2 :: x3 :: x4 :: x5 :: x6 :: x7 :: x8 :: x9 :: x10 :: x11 :: x12 :: x13 :: x14 :: x15 :: x16 :: x17 :: x18 :: x19 :: x20 :: x21 :: x22 :: x23 :: x24 :: x25 :: x26 :: x27 :: x28 :: x29 :: x30 :: x31 :: x32 :: x33 :: x34 :: x35 :: x36 :: x37 :: x38 :: x39 :: x40 :: x41 :: x42 :: x43 :: x44 :: x45 :: x46 :: x47 :: x48 :: x49 :: x50 :: x51 :: x52 :: x53 :: x54 :: x55 :: x56 :: x57 :: x58 :: x59 :: x60 :: x61 :: x62 :: r) 62 d = x62 := id rfl
theorem gd63 {x0 x1 x2 x3 x4 x5 x6 x7 x8 x9 x10 x11 x12 x13 x14 x15 x16 x17 x18 x19 x20 x21 x22 x23 x24 x25 x26 x27 x28 x29 x30 x31 x32 x33 x34 x35 x36 x37 x38 x39 x40 x41 x42 x43 x44 x45 x46 x47 x48 x49 x50 x51 x52 x53 x54 x55 x56 x57 x58 x59 x60 x61 x62 x63 : α} {r : List α} : List.getD (x0 :: x1 :: x2 :: x3 :: x4 :: x5 :: x6 :: x7 :: x8 :: x9 :: x10 :: x11 :: x12 :: x13 :: x14 :: x15 :: x16 :: x17 :: x18 :: x19 :: x20 :: x21 :: x22 :: x23 :: x24 :: x25 :: x26 :: x27 :: x28 :: x29 :: x30 :: x31 :: x32 :: x33 :: x34 :: x35 :: x36 :: x37 :: x38 :: x39 :: x40 :: x41 :: x42 :: x43 :: x44 :: x45 :: x46 :: x47 :: x48 :: x49 :: x50 :: x51 :: x52 :: x53 :: x54 :: x55 :: x56 :: x57 :: x58 :: x59 :: x60 :: x61 :: x62 :: x63 :: r) 63 d = x63 := id rfl
theorem st0 {x0 : α} {r : List α} : List.set (x0 :: r) 0 v = v :: r := id rfl
theorem st1 {x0 x1 : α} {r : List α} : List.set (x0 :: x1 :: r) 1 v = x0 :: v :: r := id rfl
theorem st2 {x0 x1 x2 : α} {r : List α} : List.set (x0 :: x1 :: x2 :: r) 2 v = x0 :: x1 :: v :: r := id rfl
theorem st3 {x0 x1 x2 x3 : α} {r : List α} : List.set (x0 :: x1 :: x2 :: x3 :: r) 3 v = x0 :: x1 :: x2 :: v :: r := id rfl
theorem st4 {x0 x1 x2 x3 x4 : α} {r : List α} : List.set (x0 :: x1 :: x2 :: x3 :: x4 :: r) 4 v = x0 :: x1 :: x2 :: x3 :: v :: r := id rfl
theorem st5 {x0 x1 x2 x3 x4 x5 : α} {r : List α} : List.set (x0 :: x1 :: x2 :: x3 :: x4 :: x5 :: r) 5 v = x0 :: x1 :: x2 :: x3 :: x4 :: v :: r := id rfl
theorem st6 {x0 x1 x2 x3 x4 x5 x6 : α} {r : List α} : List.set (x0 :: x1 :: x2 :: x3 :: x4 :: x5 :: x6 :: r) 6 v = x0 :: x1 :: x2 :: x3 :: x4 :: x5 :: v :: r := id rfl
theorem st7 {x0 x1 x2 x3 x4 x5 x6 x7 : α} {r : List α} : List.set (x0 :: x1 :: x2 :: x3 :: x4 :: x5 :: x6 :: x7 :: r) 7 v = x0 :: x1 :: x2 :: x3 :: x4 :: x5 :: x6 :: v :: r := id rfl
theorem st8 {x0 x1 x2 x3 x4 x5 x6 x7 x8 : α} {r : List α} : List.set (x0 :: x1 :: x2 :: x3 :: x4 :: x5 :: x6 :: x7 :: x8 :: r) 8 v = x0 :: x1 :: x2 :: x3 :: x4 :: x5 :: x6 :: x7 :: v :: r := id rfl
theorem st9 {x0 x1 x2 x3 x4 x5 x6 x7 x8 x9 : α} {r : List α} : List.set (x0 :: x1 :: x2 :: x3 :: x4 :: x5 :: x6 :: x7 :: x8 :: x9 :: r) 9 v = x0 :: x1 :: x2 :: x3 :: x4 :: x5 :: x6 :: x7 :: x8 :: v :: r := id rfl
theorem st10 {x0 x1 x2 x3 x4 x5 x6 x7 x8 x9 x10 : α} {r : List α} : List.set (x0 :: x1 :: x2 :: x3 :: x4 :: x5 :: x6 :: x7 :: x8 :: x9 :: x10 :: r) 10 v = x0 :: x1 :: x2 :: x3 :: x4 :: x5 :: x6 :: x7 :: x8 :: x9 :: v :: r := id rfl
theorem st11 {x0 x1 x2 x3 x4 x5 x6 x7 x8 x9 x10 x11 : α} {r : List α} : List.set (x0 :: x1 :: x2 :: x3 :: x4 :: x5 :: x6 :: x7 :: x8 :: x9 :: x10 :: x11 :: r) 11 v = x0 :: x1 :: x2 :: x3 :: x4 :: x5 :: x6 :: x7 :: x8 :: x9 :: x10 :: v :: r := id rfl
theorem st12 {x0 x1 x2 x3 x4 x5 x6 x7 x8 x9 x10 x11 x12 : α} {r : List α} : List.set (x0 :: x1 :: x2 :: x3 :: x4 :: x5 :: x6 :: x7 :: x8 :: x9 :: x10 :: x11 :: x12 :: r) 12 v = x0 :: x1 :: x2 :: x3 :: x4 :: x5 :: x6 :: x7 :: x8 :: x9 :: x10 :: x11 :: v :: r := id rfl
theorem st13 {x0 x1 x2 x3 x4 x5 x6 x7 x8 x9 x10 x11 x12 x13 : α} {r : List α} : List.set (x0 :: x1 :: x2 :: x3 :: x4 :: x5 :: x6 :: x7 :: x8 :: x9 :: x10 :: x11 :: x12 :: x13 :: r) 13 v = x0 :: x1 :: x2 :: x3 :: x4 :: x5 :: x6 :: x7 :: x8 :: x9 :: x10 :: x11 :: x12 :: v :: r := id rfl
theorem st14 {x0 x1 x2 x3 x4 x5 x6 x7 x8 x9 x10 x11 x12 x13 x14 : α} {r : List α} : List.set (x0 :: x1 :: x2 :: x3 :: x4 :: x5 :: x6 :: x7 :: x8 :: x9 :: x10 :: x11 :: x12 :: x13 :: x14 :: r) 14 v = x0 :: x1 :: x2 :: x3 :: x4 :: x5 :: x6 :: x7 :: x8 :: x9 :: x10 :: x11 :: x12 :: x13 :: v :: r := id rfl
theorem st15 {x0 x1 x2 x3 x4 x5 x6 x7 x8 x9 x10 x11 x12 x13 x14 x15 : α} {r : List α} : List.set (x0 :: x1 :: x2 :: x3 :: x4 :: x5 :: x6 :: x7 :: x8 :: x9 :: x10 :: x11 :: x12 :: x13 :: x14 :: x15 :: r) 15 v = x0 :: x1 :: x2 :: x3 :: x4 :: x5 :: x6 :: x7 :: x8 :: x9 :: x10 :: x11 :: x12 :: x13 :: x14 :: v :: r := id rfl
theorem st16 {x0 x1 x2 x3 x4 x5 x6 x7 x8 x9 x10 x11 x12 x13 x14 x15 x16 : α} {r : List α} : List.set (x0 :: x1 :: x2 :: x3 :: x4 :: x5 :: x6 :: x7 :: x8 :: x9 :: x10 :: x11 :: x12 :: x13 :: x14 :: x15 :: x16 :: r) 16 v = x0 :: x1 :: x2 :: x3 :: x4 :: x5 :: x6 :: x7 :: x8 :: x9 :: x10 :: x11 :: x12 :: x13 :: x14 :: x15 :: v :: r := id rfl
theorem st17 {x0 x1 x2 x3 x4 x5 x6 x7 x8 x9 x10 x11 x12 x13 x14 x15 x16 x17 : α} {r : List α} : List.set (x0 :: x1 :: x2 :: x3 :: x4 :: x5 :: x6 :: x7 :: x8 :: x9 :: x10 :: x11 :: x12 :: x13 :: x14 :: x15 :: x16 :: x17 :: r) 17 v = x0 :: x1 :: x2 :: x3 :: x4 :: x5 :: x6 :: x7 :: x8 :: x9 :: x10 :: x11 :: x12 :: x13 :: x14 :: x15 :: x16 :: v :: r := id rfl
theorem st18 {x0 x1 x2 x3 x4 x5 x6 x7 x8 x9 x10 x11 x12 x13 x14 x15 x16 x17 x18 : α} {r : List α} : List.set (x0 :: x1 :: x2 :: x3 :: x4 :: x5 :: x6 :: x7 :: x8 :: x9 :: x10 :: x11 :: x12 :: x13 :: x14 :: x15 :: x16 :: x17 :: x18 :: r) 18 v = x0 :: x1 :: x2 :: x3 :: x4 :: x5 :: x6 :: x7 :: x8 :: x9 :: x10 :: x11 :: x12 :: x13 :: x14 :: x15 :: x16 :: x17 :: v :: r := id rfl
theorem st19 {x0 x1 x2 x3 x4 x5 x6 x7 x8 x9 x10 x11 x12 x13 x14 x15 x16 x17 x18 x19 : α} {r : List α} : List.set (x0 :: x1 :: x2 :: x3 :: x4 :: x5 :: x6 :: x7 :: x8 :: x9 :: x10 :: x11 :: x12 :: x13 :: x14 :: x15 :: x16 :: x17 :: x18 :: x19 :: r) 19 v = x0 :: x1 :: x2 :: x3 :: x4 :: x5 :: x6 :: x7 :: x8 :: x9 :: x10 :: x11 :: x12 :: x13 :: x14 :: x15 :: x16 :: x17 :: x18 :: v :: r := id rfl
theorem st20 {x0 x1 x2 x3 x4 x5 x6 x7 x8 x9 x10 x11 x12 x13 x14 x15 x16 x17 x18 x19 x20 : α} {r : List α} : List.set (x0 :: x1 :: x2 :: x3 :: x4 :: x5 :: x6 :: x7 :: x8 :: x9 :: x10 :: x11 :: x12 :: x13 :: x14 :: x15 :: x16 :: x17 :: x18 :: x19 :: x20 :: r) 20 v = x0 :: x1 :: x2 :: x3 :: x4 :: x5 :: x6 :: x7 :: x8 :: x9 :: x10 :: x11 :: x12 :: x13 :: x14 :: x15 :: x16 :: x17 :: x18 :: x19 :: v :: r := id rfl
theorem st21 {x0 x1 x2 x3 x4 x5 x6 x7 x8 x9 x10 x11 x12 x13 x14 x15 x16 x17 x18 x19 x20 x21 : α} {r : List α} : List.set (x0 :: x1 :: x2 :: x3 :: x4 :: x5 :: x6 :: x7 :: x8 :: x9 :: x10 :: x11 :: x12 :: x13 :: x14 :: x15 :: x16 :: x17 :: x18 :: x19 :: x20 :: x21 :: r) 21 v = x0 :: x1 :: x2 :: x3 :: x4 :: x5 :: x6 :: x7 :: x8 :: x9 :: x10 :: x11 :: x12 :: x13 :: x14 :: x15 :: x16 :: x17 :: x18 :: x19 :: x20 :: v :: r := id rfl
theorem st22 {x0 x1 x2 x3 x4 x5 x6 x7 x8 x9 x10 x11 x12 x13 x14 x15 x16 x17 x18 x19 x20 x21 x22 : α} {r : List α} : List.set (x0 :: x1 :: x2 :: x3 :: x4 :: x5 :: x6 :: x7 :: x8 :: x9 :: x10 :: x11 :: x12 :: x13 :: x14 :: x15 :: x16 :: x17 :: x18 :: x19 :: x20 :: x21 :: x22 :: r) 22 v = x0 :: x1 :: x2 :: x3 :: x4 :: x5 :: x6 :: x7 :: x8 :: x9 :: x10 :: x11 :: x12 :: x13 :: x14 :: x15 :: x16 :: x17 :: x18 :: x19 :: x20 :: x21 :: v :: r := id rfl
theorem st23 {x0 x1 x2 x3 x4 x5 x6 x7 x8 x9 x10 x11 x12 x13 x14 x15 x16 x17 x18 x19 x20 x21 x22 x23 : α} {r : List α} : List.set (x0 :: x1 :: x2 :: x3 :: x4 :: x5 :: x6 :: x7 :: x8 :: x9 :: x10 :: x11 :: x12 :: x13 :: x14 :: x15 :: x16 :: x17 :: x18 :: x19 :: x20 :: x21 :: x22 :: x23 :: r) 23 v = x0 :: x1 :: x2 :: x3 :: x4 :: x5 :: x6 :: x7 :: x8 :: x9 :: x10 :: x11 :: x12 :: x13 :: x14 :: x15 :: x16 :: x17 :: x18 :: x19 :: x20 :: x21 :: x22 :: v :: r := id rfl
theorem st24 {x0 x1 x2 x3 x4 x5 x6 x7 x8 x9 x10 x11 x12 x13 x14 x15 x16 x17 x18 x19 x20 x21 x22 x23 x24 : α} {r : List α} : List.set (x0 :: x1 :: x2 :: x3 :: x4 :: x5 :: x6 :: x7 :: x8 :: x9 :: x10 :: x11 :: x12 :: x13 :: x14 :: x15 :: x16 :: x17 :: x18 :: x19 :: x20 :: x21 :: x22 :: x23 :: x24 :: r) 24 v = x0 :: x1 :: x2 :: x3 :: x4 :: x5 :: x6 :: x7 :: x8 :: x9 :: x10 :: x11 :: x12 :: x13 :: x14 :: x15 :: x16 :: x17 :: x18 :: x19 :: x20 :: x21 :: x22 :: x23 :: v :: r := id rfl
theorem st25 {x0 x1 x2 x3 x4 x5 x6 x7 x8 x9 x10 x11 x12 x13 x14 x15 x16 x17 x18 x19 x20 x21 x22 x23 x24 x25 : α} {r : List α} : List.set (x0 :: x1 :: x2 :: x3 :: x4 :: x5 :: x6 :: x7 :: x8 :: x9 :: x10 :: x11 :: x12 :: x13 :: x14 :: x15 :: x16 :: x17 :: x18 :: x19 :: x20 :: x21 :: x22 :: x23 :: x24 :: x25 :: r) 25 v = x0 :: x1 :: x2 :: x3 :: x4 :: x5 :: x6 :: x7 :: x8 :: x9 :: x10 :: x11 :: x12 :: x13 :: x14 :: x15 :: x16 :: x17 :: x18 :: x19 :: x20 :: x21 :: x22 :: x23 :: x24 :: v :: r := id rfl
theorem st26 {x0 x1 x2 x3 x4 x5 x6 x7 x8 x9 x10 x11 x12 x13 x14 x15 x16 x17 x18 x19 x20 x21 x22 x23 x24 x25 x26 : α} {r : List α} : List.set (x0 :: x1 :: x2 :: x3 :: x4 :: x5 :: x6 :: x7 :: x8 :: x9 :: x10 :: x11 :: x12 :: x13 :: x14 :: x15 :: x16 :: x17 :: x18 :: x19 :: x20 :: x21 :: x22 :: x23 :: x24 :: x25 :: x26 :: r) 26 v = x0 :: x1 :: x2 :: x3 :: x4 :: x5 :: x6 :: x7 :: x8 :: x9 :: x10 :: x11 :: x12 :: x13 :: x14 :: x15 :: x16 :: x17 :: x18 :: x19 :: x20 :: x21 :: x22 :: x23 :: x24 :: x25 :: v :: r := id rfl
theorem st27 {x0 x1 x2 x3 x4 x5 x6 x7 x8 x9 x10 x11 x12 x13 x14 x15 x16 x17 x18 x19 x20 x21 x22 x23 x24 x25 x26 x27 : α} {r : List α} : List.set (x0 :: x1 :: x2 :: x3 :: x4 :: x5 :: x6 :: x7 :: x8 :: x9 :: x10 :: x11 :: x12 :: x13 :: x14 :: x15 :: x16 :: x17 :: x18 :: x19 :: x20 :: x21 :: x22 :: x23 :: x24 :: x25 :: x26 :: x27 :: r) 27 v = x0 :: x1 :: x2 :: x3 :: x4 :: x5 :: x6 :: x7 :: x8 :: x9 :: x10 :: x11 :: x12 :: x13 :: x14 :: x15 :: x16 :: x17 :: x18 :: x19 :: x20 :: x21 :: x22 :: x23 :: x24 :: x25 :: x26 :: v :: r := id rfl
theorem st28 {x0 x1 x2 x3 x4 x5 x6 x7 x8 x9 x10 x11 x12 x13 x14 x15 x16 x17 x18 x19 x20 x21 x22 x23 x24 x25 x26 x27 x28 : α} {r : List α} : List.set (x0 :: x1 :: x2 :: x3 :: x4 :: x5 :: x6 :: x7 :: x8 :: x9 :: x10 :: x11 :: x12 :: x13 :: x14 :: x15 :: x16 :: x17 :: x18 :: x19 :: x20 :: x21 :: x22 :: x23 :: x24 :: x25 :: x26 :: x27 :: x28 :: r) 28 v = x0 :: x1 :: x2 :: x3 :: x4 :: x5 :: x6 :: x7 :: x8 :: x9 :: x10 :: x11 :: x12 :: x13 :: x14 :: x15 :: x16 :: x17 :: x18 :: x19 :: x20 :: x21 :: x22 :: x23 :: x24 :: x25 :: x26 :: x27 :: v :: r := id rfl
theorem st29 {x0 x1 x2 x3 x4 x5 x6 x7 x8 x9 x10 x11 x12 x13 x14 x15 x16 x17 x18 x19 x20 x21 x22 x23 x24 x25 x26 x27 x28 x29 : α} {r : List α} : List.set (x0 :: x1 :: x2 :: x3 :: x4 :: x5 :: x6 :: x7 :: x8 :: x9 :: x10 :: x11 :: x12 :: x13 :: x14 :: x15 :: x16 :: x17 :: x18 :: x19 :: x20 :: x21 :: x22 :: x23 :: x24 :: x25 :: x26 :: x27 :: x28 :: x29 :: r) 29 v = x0 :: x1 :: x2 :: x3 :: x4 :: x5 :: x6 :: x7 :: x8 :: x9 :: x10 :: x11 :: x12 :: x13 :: x14 :: x15 :: x16 :: x17 :: x18 :: x19 :: x20 :: x21 :: x22 :: x23 :: x24 :: x25 :: x26 :: x27 :: x28 :: v :: r := id rfl
theorem st30 {x0 x1 x2 x3 x4 x5 x6 x7 x8 x9 x10 x11 x12 x13 x14 x15 x16 x17 x18 x19 x20 x21 x22 x23 x24 x25 x26 x27 x28 x29 x30 : α} {r : List α} : List.set (x0 :: x1 :: x2 :: x3 :: x4 :: x5 :: x6 :: x7 :: x8 :: x9 :: x10 :: x11 :: x12 :: x13 :: x14 :: x15 :: x16 :: x17 :: x18 :: x19 :: x20 :: x21 :: x22 :: x23 :: x24 :: x25 :: x26 :: x27 :: x28 :: x29 :: x30 :: r) 30 v = x0 :: x1 :: x2 :: x3 :: x4 :: x5 :: x6 :: x7 :: x8 :: x9 :: x10 :: x11 :: x12 :: x13 :: x14 :: x15 :: x16 :: x17 :: x18 :: x19 :: x20 :: x21 :: x22 :: x23 :: x24 :: x25 :: x26 :: x27 :: x28 :: x29 :: v :: r := id rfl
theorem st31 {x0 x1 x2 x3 x4 x5 x6 x7 x8 x9 x10 x11 x12 x13 x14 x15 x16 x17 x18 x19 x20 x21 x22 x23 x24 x25 x26 x27 x28 x29 x30 x31 : α} {r : List α} : List.set (x0 :: x1 :: x2 :: x3 :: x4 :: x5 :: x6 :: x7 :: x8 :: x9 :: x10 :: x11 :: x12 :: x13 :: x14 :: x15 :: x16 :: x17 :: x18 :: x19 :: x20 :: x21 :: x22 :: x23 :: x24 :: x25 :: x26 :: x27 :: x28 :: x29 :: x30 :: x31 :: r) 31 v = x0 :: x1 :: x2 :: x3 :: x4 :: x5 :: x6 :: x7 :: x8 :: x9 :: x10 :: x11 :: x12 :: x13 :: x14 :: x15 :: x16 :: x17 :: x18 :: x19 :: x20 :: x21 :: x22 :: x23 :: x24 :: x25 :: x26 :: x27 :: x28 :: x29 :: x30 :: v :: r := id rfl
theorem st32 {x0 x1 x2 x3 x4 x5 x6 x7 x8 x9 x10 x11 x12 x13 x14 x15 x16 x17 x18 x19 x20 x21 x22 x23 x24 x25 x26 x27 x28 x29 x30 x31 x32 : α} {r : List α} : List.set (x0 :: x1 :: x2 :: x3 :: x4 :: x5 :: x6 :: x7 :: x8 :: x9 :: x10 :: x11 :: x12 :: x13 :: x14 :: x15 :: x16 :: x17 :: x18 :: x19 :: x20 :: x21 :: x22 :: x23 :: x24 :: x25 :: x26 :: x27 :: x28 :: x29 :: x30 :: x31 :: x32 :: r) 32 v = x0 :: x1 :: x2 :: x3 :: x4 :: x5 :: x6 :: x7 :: x8 :: x9 :: x10 :: x11 :: x12 :: x13 :: x14 :: x15 :: x16 :: x17 :: x18 :: x19 :: x20 :: x21 :: x22 :: x23 :: x24 :: x25 :: x26 :: x27 :: x28 :: x29 :: x30 :: x31 :: v :: r := id rfl
theorem st33 {x0 x1 x2 x3 x4 x5 x6 x7 x8 x9 x10 x11 x12 x13 x14 x15 x16 x17 x18 x19 x20 x21 x22 x23 x24 x25 x26 x27 x28 x29 x30 x31 x32 x33 : α} {r : List α} : List.set (x0 :: x1 :: x2 :: x3 :: x4 :: x5 :: x6 :: x7 :: x8 :: x9 :: x10 :: x11 :: x12 :: x13 :: x14 :: x15 :: x16 :: x17 :: x18 :: x19 :: x20 :: x21 :: x22 :: x23 :: x24 :: x25 :: x26 :: x27 :: x28 :: x29 :: x30 :: x31 :: x32 :: x33 :: r) 33 v = x0 :: x1 :: x2 :: x3 :: x4 :: x5 :: x6 :: x7 :: x8 :: x9 :: x10 :: x11 :: x12 :: x13 :: x14 :: x15 :: x16 :: x17 :: x18 :: x19 :: x20 :: x21 :: x22 :: x23 :: x24 :: x25 :: x26 :: x27 :: x28 :: x29 :: x30 :: x31 :: x32 :: v :: r := id rfl
theorem st34 {x0 x1 x2 x3 x4 x5 x6 x7 x8 x9 x10 x11 x12 x13 x14 x15 x16 x17 x18 x19 x20 x21 x22 x23 x24 x25 x26 x27 x28 x29 x30 x31 x32 x33 x34 : α} {r : List α} : List.set (x0 :: x1 :: x2 :: x3 :: x4 :: x5 :: x6 :: x7 :: x8 :: x9 :: x10 :: x11 :: x12 :: x13 :: x14 :: x15 :: x16 :: x17 :: x18 :: x19 :: x20 :: x21 :: x22 :: x23 :: x24 :: x25 :: x26 :: x27 :: x28 :: x29 :: x30 :: x31 :: x32 :: x33 :: x34 :: r) 34 v = x0 :: x1 :: x2 :: x3 :: x4 :: x5 :: x6 :: x7 :: x8 :: x9 :: x10 :: x11 :: x12 :: x13 :: x14 :: x15 :: x16 :: x17 :: x18 :: x19 :: x20 :: x21 :: x22 :: x23 :: x24 :: x25 :: x26 :: x27 :: x28 :: x29 :: x30 :: x31 :: x32 :: x33 :: v :: r := id rfl
theorem st35 {x0 x1 x2 x3 x4 x5 x6 x7 x8 x9 x10 x11 x12 x13 x14 x15 x16 x17 x18 x19 x20 x21 x22 x23 x24 x25 x26 x27 x28 x29 x30 x31 x32 x33 x34 x35 : α} {r : List α} : List.set (x0 :: x1 :: x2 :: x3 :: x4 :: x5 :: x6 :: x7 :: x8 :: x9 :: x10 :: x11 :: x12 :: x13 :: x14 :: x15 :: x16 :: x17 :: x18 :: x19 :: x20 :: x21 :: x22 :: x23 :: x24 :: x25 :: x26 :: x27 :: x28 :: x29 :: x30 :: x31 :: x32 :: x33 :: x34 :: x35 :: r) 35 v = x0 :: x1 :: x2 :: x3 :: x4 :: x5 :: x6 :: x7 :: x8 :: x9 :: x10 :: x11 :: x12 :: x13 :: x14 :: x15 :: x16 :: x17 :: x18 :: x19 :: x20 :: x21 :: x22 :: x23 :: x24 :: x25 :: x26 :: x27 :: x28 :: x29 :: x30 :: x31 :: x32 :: x33 :: x34 :: v :: r := id rfl
theorem st36 {x0 x1 x2 x3 x4 x5 x6 x7 x8 x9 x10 x11 x12 x13 x14 x15 x16 x17 x18 x19 x20 x21 x22 x23 x24 x25 x26 x27 x28 x29 x30 x31 x32 x33 x34 x35 x36 : α} {r : List α} : List.set (x0 :: x1 :: x2 :: x3 :: x4 :: x5 :: x6 :: x7 :: x8 :: x9 :: x10 :: x11 :: x12 :: x13 :: x14 :: x15 :: x16 :: x17 :: x18 :: x19 :: x20 :: x21 :: x22 :: x23 :: x24 :: x25 :: x26 :: x27 :: x28 :: x29 :: x30 :: x31 :: x32 :: x33 :: x34 :: x35 :: x36 :: r) 36 v = x0 :: x1 :: x2 :: x3 :: x4 :: x5 :: x6 :: x7 :: x8 :: x9 :: x10 :: x11 :: x12 :: x13 :: x14 :: x15 :: x16 :: x17 :: x18 :: x19 :: x20 :: x21 :: x22 :: x23 :: x24 :: x25 :: x26 :: x27 :: x28 :: x29 :: x30 :: x31 :: x32 :: x33 :: x34 :: x35 :: v :: r := id rfl
theorem st37 {x0 x1 x2 x3 x4 x5 x6 x7 x8 x9 x10 x11 x12 x13 x14 x15 x16 x17 x18 x19 x20 x21 x22 x23 x24 x25 x26 x27 x28 x29 x30 x31 x32 x33 x34 x35 x36 x37 : α} {r : List α} : List.set (x0 :: x1 :: x2 :: x3 :: x4 :: x5 :: x6 :: x7 :: x8 :: x9 :: x10 :: x11 :: x12 :: x13 :: x14 :: x15 :: x16 :: x17 :: x18 :: x19 :: x20 :: x21 :: x22 :: x23 :: x24 :: x25 :: x26 :: x27 :: x28 :: x29 :: x30 :: x31 :: x32 :: x33 :: x34 :: x35 :: x36 :: x37 :: r) 37 v = x0 :: x1 :: x2 :: x3 :: x4 :: x5 :: x6 :: x7 :: x8 :: x9 :: x10 :: x11 :: x12 :: x13 :: x14 :: x15 :: x16 :: x17 :: x18 :: x19 :: x20 :: x21 :: x22 :: x23 :: x24 :: x25 :: x26 :: x27 :: x28 :: x29 :: x30 :: x31 :: x32 :: x33 :: x34 :: x35 :: x36 :: v :: r := id rfl
theorem st38 {x0 x1 x2 x3 x4 x5 x6 x7 x8 x9 x10 x11 x12 x13 x14 x15 x16 x17 x18 x19 x20 x21 x22 x23 x24 x25 x26 x27 x28 x29 x30 x31 x32 x33 x34 x35 x36 x37 x38 : α} {r : List α} : List.set (x0 :: x1 :: x2 :: x3 :: x4 :: x5 :: x6 :: x7 :: x8 :: x9 :: x10 :: x11 :: x12 :: x13 :: x14 :: x15 :: x16 :: x17 :: x18 :: x19 :: x20 :: x21 :: x22 :: x23 :: x24 :: x25 :: x26 :: x27 :: x28 :: x29 :: x30 :: x31 :: x32 :: x33 :: x34 :: x35 :: x36 :: x37 :: x38 :: r) 38 v = x0 :: x1 :: x2 :: x3 :: x4 :: x5 :: x6 :: x7 :: x8 :: x9 :: x10 :: x11 :: x12 :: x13 :: x14 :: x15 :: x16 :: x17 :: x18 :: x19 :: x20 :: x21 :: x22 :: x23 :: x24 :: x25 :: x26 :: x27 :: x28 :: x29 :: x30 :: x31 :: x32 :: x33 :: x34 :: x35 :: x36 :: x37 :: v :: r := id rfl
theorem st39 {x0 x1 x2 x3 x4 x5 x6 x7 x8 x9 x10 x11 x12 x13 x14 x15 x16 x17 x18 x19 x20 x21 x22 x23 x24 x25 x26 x27 x28 x29 x30 x31 x32 x33 x34 x35 x36 x37 x38 x39 : α} {r : List α} : List.set (x0 :: x1 :: x2 :: x3 :: x4 :: x5 :: x6 :: x7 :: x8 :: x9 :: x10 :: x11 :: x12 :: x13 :: x14 :: x15 :: x16 :: x17 :: x18 :: x19 :: x20 :: x21 :: x22 :: x23 :: x24 :: x25 :: x26 :: x27 :: x28 :: x29 :: x30 :: x31 :: x32 :: x33 :: x34 :: x35 :: x36 :: x37 :: x38 :: x39 :: r) 39 v = x0 :: x1 :: x2 :: x3 :: x4 :: x5 :: x6 :: x7 :: x8 :: x9 :: x10 :: x11 :: x12 :: x13 :: x14 :: x15 :: x16 :: x17 :: x18 :: x19 :: x20 :: x21 :: x22 :: x23 :: x24 :: x25 :: x26 :: x27 :: x28 :: x29 :: x30 :: x31 :: x32 :: x33 :: x34 :: x35 :: x36 :: x37 :: x38 :: v :: r := id rfl
theorem st40 {x0 x1 x2 x3 x4 x5 x6 x7 x8 x9 x10 x11 x12 x13 x14 x15 x16 x17 x18 x19 x20 x21 x22 x23 x24 x25 x26 x27 x28 x29 x30 x31 x32 x33 x34 x35 x36 x37 x38 x39 x40 : α} {r : List α} : List.set (x0 :: x1 :: x2 :: x3 :: x4 :: x5 :: x6 :: x7 :: x8 :: x9 :: x10 :: x11 :: x12 :: x13 :: x14 :: x15 :: x16 :: x17 :: x18 :: x19 :: x20 :: x21 :: x22 :: x23 :: x24 :: x25 :: x26 :: x27 :: x28 :: x29 :: x30 :: x31 :: x32 :: x33 :: x34 :: x35 :: x36 :: x37 :: x38 :: x39 :: x40 :: r) 40 v = x0 :: x1 :: x2 :: x3 :: x4 :: x5 :: x6 :: x7 :: x8 :: x9 :: x10 :: x11 :: x12 :: x13 :: x14 :: x15 :: x16 :: x17 :: x18 :: x19 :: x20 :: x21 :: x22 :: x23 :: x24 :: x25 :: x26 :: x27 :: x28 :: x29 :: x30 :: x31 :: x32 :: x33 :: x34 :: x35 :: x36 :: x37 :: x38 :: x39 :: v :: r := id rfl
theorem st41 {x0 x1 x2 x3 x4 x5 x6 x7 x8 x9 x10 x11 x12 x13 x14 x15 x16 x17 x18 x19 x20 x21 x22 x23 x24 x25 x26 x27 x28 x29 x30 x31 x32 x33 x34 x35 x36 x37 x38 x39 x40 x41 : α} {r : List α} : List.set (x0 :: x1 :: x2 :: x3 :: x4 :: x5 :: x6 :: x7 :: x8 :: x9 :: x10 :: x11 :: x12 :: x13 :: x14 :: x15 :: x16 :: x17 :: x18 :: x19 :: x20 :: x21 :: x22 :: x23 :: x24 :: x25 :: x26 :: x27 :: x28 :: x29 :: x30 :: x31 :: x32 :: x33 :: x34 :: x35 :: x36 :: x37 :: x38 :: x39 :: x40 :: x41 :: r) 41 v = x0 :: x1 :: x2 :: x3 :: x4 :: x5 :: x6 :: x7 :: x8 :: x9 :: x10 :: x11 :: x12 :: x13 :: x14 :: x15 :: x16 :: x17 :: x18 :: x19 :: x20 :: x21 :: x22 :: x23 :: x24 :: x25 :: x26 :: x27 :: x28 :: x29 :: x30 :: x31 :: x32 :: x33 :: x34 :: x35 :: x36 :: x37 :: x38 :: x39 :: x40 :: v :: r := id rfl
theorem st42 {x0 x1 x2 x3 x4 x5 x6 x7 x8 x9 x10 x11 x12 x13 x14 x15 x16 x17 x18 x19 x20 x21 x22 x23 x24 x25 x26 x27 x28 x29 x30 x31 x32 x33 x34 x35 x36 x37 x38 x39 x40 x41 x42 : α} {r : List α} : List.set (x0 :: x1 :: x2 :: x3 :: x4 :: x5 :: x6 :: x7 :: x8 :: x9 :: x10 :: x11 :: x12 :: x13 :: x14 :: x15 :: x16 :: x17 :: x18 :: x19 :: x20 :: x21 :: x22 :: x23 :: x24 :: x25 :: x26 :: x27 :: x28 :: x29 :: x30 :: x31 :: x32 :: x33 :: x34 :: x35 :: x36 :: x37 :: x38 :: x39 :: x40 :: x41 :: x42 :: r) 42 v = x0 :: x1 :: x2 :: x3 :: x4 :: x5 :: x6 :: x7 :: x8 :: x9 :: x10 :: x11 :: x12 :: x13 :: x14 :: x15 :: x16 :: x17 :: x18 :: x19 :: x20 :: x21 :: x22 :: x23 :: x24 :: x25 :: x26 :: x27 :: x28 :: x29 :: x30 :: x31 :: x32 :: x33 :: x34 :: x35 :: x36 :: x37 :: x38 :: x39 :: x40 :: x41 :: v :: r := id rfl
theorem st43 {x0 x1 x2 x3 x4 x5 x6 x7 x8 x9 x10 x11 x12 x13 x14 x15 x16 x17 x18 x19 x20 x21 x22 x23 x24 x25 x26 x27 x28 x29 x30 x31 x32 x33 x34 x35 x36 x37 x38 x39 x40 x41 x42 x43 : α} {r : List α} : List.set (x0 :: x1 :: x2 :: x3 :: x4 :: x5 :: x6 :: x7 :: x8 :: x9 :: x10 :: x11 :: x12 :: x13 :: x14 :: x15 :: x16 :: x17 :: x18 :: x19 :: x20 :: x21 :: x22 :: x23 :: x24 :: x25 :: x26 :: x27 :: x28 :: x29 :: x30 :: x31 :: x32 :: x33 :: x34 :: x35 :: x36 :: x37 :: x38 :: x39 :: x40 :: x41 :: x42 :: x43 :: r) 43 v = x0 :: x1 :: x2 :: x3 :: x4 :: x5 :: x6 :: x7 :: x8 :: x9 :: x10 :: x11 :: x12 :: x13 :: x14 :: x15 :: x16 :: x17 :: x18 :: x19 :: x20 :: x21 :: x22 :: x23 :: x24 :: x25 :: x26 :: x27 :: x28 :: x29 :: x30 :: x31 :: x32 :: x33 :: x34 :: x35 :: x36 :: x37 :: x38 :: x39 :: x40 :: x41 :: x42 :: v :: r := id rfl
theorem st44 {x0 x1 x2 x3 x4 x5 x6 x7 x8 x9 x10 x11 x12 x13 x14 x15 x16 x17 x18 x19 x20 x21 x22 x23 x24 x25 x26 x27 x28 x29 x30 x31 x32 x33 x34 x35 x36 x37 x38 x39 x40 x41 x42 x43 x44 : α} {r : List α} : List.set (x0 :: x1 :: x2 :: x3 :: x4 :: x5 :: x6 :: x7 :: x8 :: x9 :: x10 :: x11 :: x12 :: x13 :: x14 :: x15 :: x16 :: x17 :: x18 :: x19 :: x20 :: x21 :: x22 :: x23 :: x24 :: x25 :: x26 :: x27 :: x28 :: x29 :: x30 :: x31 :: x32 :: x33 :: x34 :: x35 :: x36 :: x37 :: x38 :: x39 :: x40 :: x41 :: x42 :: x43 :: x44 :: r) 44 v = x0 :: x1 :: x2 :: x3 :: x4 :: x5 :: x6 :: x7 :: x8 :: x9 :: x10 :: x11 :: x12 :: x13 :: x14 :: x15 :: x16 :: x17 :: x18 :: x19 :: x20 :: x21 :: x22 :: x23 :: x24 :: x25 :: x26 :: x27 :: x28 :: x29 :: x30 :: x31 :: x32 :: x33 :: x34 :: x35 :: x36 :: x37 :: x38 :: x39 :: x40 :: x41 :: x42 :: x43 :: v :: r := id rfl
theorem st45 {x0 x1 x2 x3 x4 x5 x6 x7 x8 x9 x10 x11 x12 x13 x14 x15 x16 x17 x18 x19 x20 x21 x22 x23 x24 x25 x26 x27 x28 x29 x30 x31 x32 x33 x34 x35 x36 x37 x38 x39 x40 x41 x42 x43 x44 x45 : α} {r : List α} : List.set (x0 :: x1 :: x2 :: x3 :: x4 :: x5 :: x6 :: x7 :: x8 :: x9 :: x10 :: x11 :: x12 :: x13 :: x14 :: x15 :: x16 :: x17 :: x18 :: x19 :: x20 :: x21 :: x22 :: x23 :: x24 :: x25 :: x26 :: x27 :: x28 :: x29 :: x30 :: x31 :: x32 :: x33 :: x34 :: x35 :: x36 :: x37 :: x38 :: x39 :: x40 :: x41 :: x42 :: x43 :: x44 :: x45 :: r) 45 v = x0 :: x1 :: x2 :: x3 :: x4 :: x5 :: x6 :: x7 :: x8 :: x9 :: x10 :: x11 :: x12 :: x13 :: x14 :: x15 :: x16 :: x17 :: x18 :: x19 :: x20 :: x21 :: x22 :: x23 :: x24 :: x25 :: x26 :: x27 :: x28 :: x29 :: x30 :: x31 :: x32 :: x33 :: x34 :: x35 :: x36 :: x37 :: x38 :: x39 :: x40 :: x41 :: x42 :: x43 :: x44 :: v :: r := id rfl
theorem st46 {x0 x1 x2 x3 x4 x5 x6 x7 x8 x9 x10 x11 x12 x13 x14 x15 x16 x17 x18 x19 x20 x21 x22 x23 x24 x25 x26 x27 x28 x29 x30 x31 x32 x33 x34 x35 x36 x37 x38 x39 x40 x41 x42 x43 x44 x45 x46 : α} {r : List α} : List.set (x0 :: x1 :: x2 :: x3 :: x4 :: x5 :: x6 :: x7 :: x8 :: x9 :: x10 :: x11 :: x12 :: x13 :: x14 :: x15 :: x16 :: x17 :: x18 :: x19 :: x20 :: x21 :: x22 :: x23 :: x24 :: x25 :: x26 :: x27 :: x28 :: x29 :: x30 :: x31 :: x32 :: x33 :: x34 :: x35 :: x36 :: x37 :: x38 :: x39 :: x40 :: x41 :: x42 :: x43 :: x44 :: x45 :: x46 :: r) 46 v = x0 :: x1 :: x2 :: x3 :: x4 :: x5 :: x6 :: x7 :: x8 :: x9 :: x10 :: x11 :: x12 :: x13 :: x14 :: x15 :: x16 :: x17 :: x18 :: x19 :: x20 :: x21 :: x22 :: x23 :: x24 :: x25 :: x26 :: x27 :: x28 :: x29 :: x30 :: x31 :: x32 :: x33 :: x34 :: x35 :: x36 :: x37 :: x38 :: x39 :: x40 :: x41 :: x42 :: x43 :: x44 :: x45 :: v :: r := id rfl
theorem st47 {x0 x1 x2 x3 x4 x5 x6 x7 x8 x9 x10 x11 x12 x13 x14 x15 x16 x17 x18 x19 x20 x21 x22 x23 x24 x25 x26 x27 x28 x29 x30 x31 x32 x33 x34 x35 x36 x37 x38 x39 x40 x41 x42 x43 x44 x45 x46 x47 : α} {r : List α} : List.set (x0 :: x1 :: x2 :: x3 :: x4 :: x5 :: x6 :: x7 :: x8 :: x9 :: x10 :: x11 :: x12 :: x13 :: x14 :: x15 :: x16 :: x17 :: x18 :: x19 :: x20 :: x21 :: x22 :: x23 :: x24 :: x25 :: x26 :: x27 :: x28 :: x29 :: x30 :: x31 :: x32 :: x33 :: x34 :: x35 :: x36 :: x37 :: x38 :: x39 :: x40 :: x41 :: x42 :: x43 :: x44 :: x45 :: x46 :: x47 :: r) 47 v = x0 :: x1 :: x2 :: x3 :: x4 :: x5 :: x6 :: x7 :: x8 :: x9 :: x10 :: x11 :: x12 :: x13 :: x14 :: x15 :: x16 :: x17 :: x18 :: x19 :: x20 :: x21 :: x22 :: x23 :: x24 :: x25 :: x26 :: x27 :: x28 :: x29 :: x30 :: x31 :: x32 :: x33 :: x34 :: x35 :: x36 :: x37 :: x38 :: x39 :: x40 :: x41 :: x42 :: x43 :: x44 :: x45 :: x46 :: v :: r := id rfl
theorem st48 {x0 x1 x2 x3 x4 x5 x6 x7 x8 x9 x10 x11 x12 x13 x14 x15 x16 x17 x18 x19 x20 x21 x22 x23 x24 x25 x26 x27 x28 x29 x30 x31 x32 x33 x34 x35 x36 x37 x38 x39 x40 x41 x42 x43 x44 x45 x46 x47 x48 : α} {r : List α} : List.set (x0 :: x1 :: x2 :: x3 :: x4 :: x5 :: x6 :: x7 :: x8 :: x9 :: x10 :: x11 :: x12 :: x13 :: x14 :: x15 :: x16 :: x17 :: x18 :: x19 :: x20 :: x21 :: x22 :: x23 :: x24 :: x25 :: x26 :: x27 :: x28 :: x29 :: x30 :: x31 :: x32 :: x33 :: x34 :: x35 :: x36 :: x37 :: x38 :: x39 :: x40 :: x41 :: x42 :: x43 :: x44 :: x45 :: x46 :: x47 :: x48 :: r) 48 v = x0 :: x1 :: x2 :: x3 :: x4 :: x5 :: x6 :: x7 :: x8 :: x9 :: x10 :: x11 :: x12 :: x13 :: x14 :: x15 :: x16 :: x17 :: x18 :: x19 :: x20 :: x21 :: x22 :: x23 :: x24 :: x25 :: x26 :: x27 :: x28 :: x29 :: x30 :: x31 :: x32 :: x33 :: x34 :: x35 :: x36 :: x37 :: x38 :: x39 :: x40 :: x41 :: x42 :: x43 :: x44 :: x45 :: x46 :: x47 :: v :: r := id rfl
theorem st49 {x0 x1 x2 x3 x4 x5 x6 x7 x8 x9 x10 x11 x12 x13 x14 x15 x16 x17 x18 x19 x20 x21 x22 x23 x24 x25 x26 x27 x28 x29 x30 x31 x32 x33 x34 x35 x36 x37 x38 x39 x40 x41 x42 x43 x44 x45 x46 x47 x48 x49 : α} {r : List α} : List.set (x0 :: x1 :: x2 :: x3 :: x4 :: x5 :: x6 :: x7 :: x8 :: x9 :: x10 :: x11 :: x12 :: x13 :: x14 :: x15 :: x16 :: x17 :: x18 :: x19 :: x20 :: x21 :: x22 :: x23 :: x24 :: x25 :: x26 :: x27 :: x28 :: x29 :: x30 :: x31 :: x32 :: x33 :: x34 :: x35 :: x36 :: x37 :: x38 :: x39 :: x40 :: x41 :: x42 :: x43 :: x44 :: x45 :: x46 :: x47 :: x48 :: x49 :: r) 49 v = x0 :: x1 :: x2 :: x3 :: x4 :: x5 :: x6 :: x7 :: x8 :: x9 :: x10 :: x11 :: x12 :: x13 :: x14 :: x15 :: x16 :: x17 :: x18 :: x19 :: x20 :: x21 :: x22 :: x23 :: x24 :: x25 :: x26 :: x27 :: x28 :: x29 :: x30 :: x31 :: x32 :: x33 :: x34 :: x35 :: x36 :: x37 :: x38 :: x39 :: x40 :: x41 :: x42 :: x43 :: x44 :: x45 :: x46 :: x47 :: x48 :: v :: r := id rfl
theorem st50 {x0 x1 x2 x3 x4 x5 x6 x7 x8 x9 x10 x11 x12 x13 x14 x15 x16 x17 x18 x19 x20 x21 x22 x23 x24 x25 x26 x27 x28 x29 x30 x31 x32 x33 x34 x35 x36 x37 x38 x39 x40 x41 x42 x43 x44 x45 x46 x47 x48 x49 x50 : α} {r : List α} : List.set (x0 :: x1 :: x2 :: x3 :: x4 :: x5 :: x6 :: x7 :: x8 :: x9 :: x10 :: x11 :: x12 :: x13 :: x14 :: x15 :: x16 :: x17 :: x18 :: x19 :: x20 :: x21 :: x22 :: x23 :: x24 :: x25 :: x26 :: x27 :: x28 :: x29 :: x30 :: x31 :: x32 :: x33 :: x34 :: x35 :: x36 :: x37 :: x38 :: x39 :: x40 :: x41 :: x42 :: x43 :: x44 :: x45 :: x46 :: x47 :: x48 :: x49 :: x50 :: r) 50 v = x0 :: x1 :: x2 :: x3 :: x4 :: x5 :: x6 :: x7 :: x8 :: x9 :: x10 :: x11 :: x12 :: x13 :: x14 :: x15 :: x16 :: x17 :: x18 :: x19 :: x20 :: x21 :: x22 :: x23 :: x24 :: x25 :: x26 :: x27 :: x28 :: x29 :: x30 :: x31 :: x32 :: x33 :: x34 :: x35 :: x36 :: x37 :: x38 :: x39 :: x40 :: x41 :: x42 :: x43 :: x44 :: x45 :: x46 :: x47 :: x48 :: x49 :: v :: r := id rfl
theorem st51 {x0 x1 x2 x3 x4 x5 x6 x7 x8 x9 x10 x11 x12 x13 x14 x15 x16 x17 x18 x19 x20 x21 x22 x23 x24 x25 x26 x27 x28 x29 x30 x31 x32 x33 x34 x35 x36 x37 x38 x39 x40 x41 x42 x43 x44 x45 x46 x47 x48 x49 x50 x51 : α} {r : List α} : List.set (x0 :: x1 :: x2 :: x3 :: x4 :: x5 :: x6 :: x7 :: x8 :: x9 :: x10 :: x11 :: x12 :: x13 :: x14 :: x15 :: x16 :: x17 :: x18 :: x19 :: x20 :: x21 :: x22 :: x23 :: x24 :: x25 :: x26 :: x27 :: x28 :: x29 :: x30 :: x31 :: x32 :: x33 :: x34 :: x35 :: x36 :: x37 :: x38 :: x39 :: x40 :: x41 :: x42 :: x43 :: x44 :: x45 :: x46 :: x47 :: x48 :: x49 :: x50 :: x51 :: r) 51 v = x0 :: x1 :: x2 :: x3 :: x4 :: x5 :: x6 :: x7 :: x8 :: x9 :: x10 :: x11 :: x12 :: x13 :: x14 :: x15 :: x16 :: x17 :: x18 :: x19 :: x20 :: x21 :: x22 :: x23 :: x24 :: x25 :: x26 :: x27 :: x28 :: x29 :: x30 :: x31 :: x32 :: x33 :: x34 :: x35 :: x36 :: x37 :: x38 :: x39 :: x40 :: x41 :: x42 :: x43 :: x44 :: x45 :: x46 :: x47 :: x48 :: x49 :: x50 :: v :: r := id rfl
theorem st52 {x0 x1 x2 x3 x4 x5 x6 x7 x8 x9 x10 x11 x12 x13 x14 x15 x16 x17 x18 x19 x20 x21 x22 x23 x24 x25 x26 x27 x28 x29 x30 x31 x32 x33 x34 x35 x36 x37 x38 x39 x40 x41 x42 x43 x44 x45 x46 x47 x48 x49 x50 x51 x52 : α} {r : List α} : List.set (x0 :: x1 :: x2 :: x3 :: x4 :: x5 :: x6 :: x7 :: x8 :: x9 :: x10 :: x11 :: x12 :: x13 :: x14 :: x15 :: x16 :: x17 :: x18 :: x19 :: x20 :: x21 :: x22 :: x23 :: x24 :: x25 :: x26 :: x27 :: x28 :: x29 :: x30 :: x31 :: x32 :: x33 :: x34 :: x35 :: x36 :: x37 :: x38 :: x39 :: x40 :: x41 :: x42 :: x43 :: x44 :: x45 :: x46 :: x47 :: x48 :: x49 :: x50 :: x51 :: x52 :: r) 52 v = x0 :: x1 :: x2 :: x3 :: x4 :: x5 :: x6 :: x7 :: x8 :: x9 :: x10 :: x11 :: x12 :: x13 :: x14 :: x15 :: x16 :: x17 :: x18 :: x19 :: x20 :: x21 :: x22 :: x23 :: x24 :: x25 :: x26 :: x27 :: x28 :: x29 :: x30 :: x31 :: x32 :: x33 :: x34 :: x35 :: x36 :: x37 :: x38 :: x39 :: x40 :: x41 :: x42 :: x43 :: x44 :: x45 :: x46 :: x47 :: x48 :: x49 :: x50 :: x51 :: v :: r := id rfl
theorem st53 {x0 x1 x2 x3 x4 x5 x6 x7 x8 x9 x10 x11 x12 x13 x14 x15 x16 x17 x18 x19 x20 x21 x22 x23 x24 x25 x26 x27 x28 x29 x30 x31 x32 x33 x34 x35 x36 x37 x38 x39 x40 x41 x42 x43 x44 x45 x46 x47 x48 x49 x50 x51 x52 x53 : α} {r : List α} : List.set (x0 :: x1 :: x2 :: x3 :: x4 :: x5 :: x6 :: x7 :: x8 :: x9 :: x10 :: x11 :: x12 :: x13 :: x14 :: x15 :: x16 :: x17 :: x18 :: x19 :: x20 :: x21 :: x22 :: x23 :: x24 :: x25 :: x26 :: x27 :: x28 :: x29 :: x30 :: x31 :: x32 :: x33 :: x34 :: x35 :: x36 :: x37 :: x38 :: x39 :: x40 :: x41 :: x42 :: x43 :: x44 :: x45 :: x46 :: x47 :: x48 :: x49 :: x50 :: x51 :: x52 :: x53 :: r) 53 v = x0 :: x1 :: x2 :: x3 :: x4 :: x5 :: x6 :: x7 :: x8 :: x9 :: x10 :: x11 :: x12 :: x13 :: x14 :: x15 :: x16 :: x17 :: x18 :: x19 :: x20 :: x21 :: x22 :: x23 :: x24 :: x25 :: x26 :: x27 :: x28 :: x29 :: x30 :: x31 :: x32 :: x33 :: x34 :: x35 :: x36 :: x37 :: x38 :: x39 :: x40 :: x41 :: x42 :: x43 :: x44 :: x45 :: x46 :: x47 :: x48 :: x49 :: x50 :: x51 :: x52 :: v :: r := id rfl
theorem st54 {x0 x1 x2 x3 x4 x5 x6 x7 x8 x9 x10 x11 x12 x13 x14 x15 x16 x17 x18 x19 x20 x21 x22 x23 x24 x25 x26 x27 x28 x29 x30 x31 x32 x33 x34 x35 x36 x37 x38 x39 x40 x41 x42 x43 x44 x45 x46 x47 x48 x49 x50 x51 x52 x53 x54 : α} {r : List α} : List.set (x0 :: x1 :: x2 :: x3 :: x4 :: x5 :: x6 :: x7 :: x8 :: x9 :: x10 :: x11 :: x12 :: x13 :: x14 :: x15 :: x16 :: x17 :: x18 :: x19 :: x20 :: x21 :: x22 :: x23 :: x24 :: x25 :: x26 :: x27 :: x28 :: x29 :: x30 :: x31 :: x32 :: x33 :: x34 :: x35 :: x36 :: x37 :: x38 :: x39 :: x40 :: x41 :: x42 :: x43 :: x44 :: x45 :: x46 :: x47 :: x48 :: x49 :: x50 :: x51 :: x52 :: x53 :: x54 :: r) 54 v = x0 :: x1 :: x2 :: x3 :: x4 :: x5 :: x6 :: x7 :: x8 :: x9 :: x10 :: x11 :: x12 :: x13 :: x14 :: x15 :: x16 :: x17 :: x18 :: x19 :: x20 :: x21 :: x22 :: x23 :: x24 :: x25 :: x26 :: x27 :: x28 :: x29 :: x30 :: x31 :: x32 :: x33 :: x34 :: x35 :: x36 :: x37 :: x38 :: x39 :: x40 :: x41 :: x42 :: x43 :: x44 :: x45 :: x46 :: x47 :: x48 :: x49 :: x50 :: x51 :: x52 :: x53 :: v :: r := id rfl
theorem st55 {x0 x1 x2 x3 x4 x5 x6 x7 x8 x9 x10 x11 x12 x13 x14 x15 x16 x17 x18 x19 x20 x21 x22 x23 x24 x25 x26 x27 x28 x29 x30 x31 x32 x33 x34 x35 x36 x37 x38 x39 x40 x41 x42 x43 x44 x45 x46 x47 x48 x49 x50 x51 x52 x53 x54 x55 : α} {r : List α} : List.set (x0 :: x1 :: x2 :: x3 :: x4 :: x5 :: x6 :: x7 :: x8 :: x9 :: x10 :: x11 :: x12 :: x13 :: x14 :: x15 :: x16 :: x17 :: x18 :: x19 :: x20 :: x21 :: x22 :: x23 :: x24 :: x25 :: x26 :: x27 :: x28 :: x29 :: x30 :: x31 :: x32 :: x33 :: x34 :: x35 :: x36 :: x37 :: x38 :: x39 :: x40 :: x41 :: x42 :: x43 :: x44 :: x45 :: x46 :: x47 :: x48 :: x49 :: x50 :: x51 :: x52 :: x53 :: x54 :: x55 :: r) 55 v = x0 :: x1 :: x2 :: x3 :: x4 :: x5 :: x6 :: x7 :: x8 :: x9 :: x10 :: x11 :: x12 :: x13 :: x14 :: x15 :: x16 :: x17 :: x18 :: x19 :: x20 :: x21 :: x22 :: x23 :: x24 :: x25 :: x26 :: x27 :: x28 :: x29 :: x30 :: x31 :: x32 :: x33 :: x34 :: x35 :: x36 :: x37 :: x38 :: x39 :: x40 :: x41 :: x42 :: x43 :: x44 :: x45 :: x46 :: x47 :: x48 :: x49 :: x50 :: x51 :: x52 :: x53 :: x54 :: v :: r := id rfl
theorem st56 {x0 x1 x2 x3 x4 x5 x6 x7 x8 x9 x10 x11 x12 x13 x14 x15 x16 x17 x18 x19 x20 x21 x22 x23 x24 x25 x26 x27 x28 x29 x30 x31 x32 x33 x34 x35 x36 x37 x38 x39 x40 x41 x42 x43 x44 x45 x46 x47 x48 x49 x50 x51 x52 x53 x54 x55 x56 : α} {r : List α} : List.set (x0 :: x1 :: x2 :: x3 :: x4 :: x5 :: x6 :: x7 :: x8 :: x9 :: x10 :: x11 :: x12 :: x13 :: x14 :: x15 :: x16 :: x17 :: x18 :: x19 :: x20 :: x21 :: x22 :: x23 :: x24 :: x25 :: x26 :: x27 :: x28 :: x29 :: x30 :: x31 :: x32 :: x33 :: x34 :: x35 :: x36 :: x37 :: x38 :: x39 :: x40 :: x41 :: x42 :: x43 :: x44 :: x45 :: x46 :: x47 :: x48 :: x49 :: x50 :: x51 :: x52 :: x53 :: x54 :: x55 :: x56 :: r) 56 v = x0 :: x1 :: x2 :: x3 :: x4 :: x5 :: x6 :: x7 :: x8 :: x9 :: x10 :: x11 :: x12 :: x13 :: x14 :: x15 :: x16 :: x17 :: x18 :: x19 :: x20 :: x21 :: x22 :: x23 :: x24 :: x25 :: x26 :: x27 :: x28 :: x29 :: x30 :: x31 :: x32 :: x33 :: x34 :: x35 :: x36 :: x37 :: x38 :: x39 :: x40 :: x41 :: x42 :: x43 :: x44 :: x45 :: x46 :: x47 :: x48 :: x49 :: x50 :: x51 :: x52 :: x53 :: x54 :: x55 :: v :: r := id rfl
theorem st57 {x0 x1 x2 x3 x4 x5 x6 x7 x8 x9 x10 x11 x12 x13 x14 x15 x16 x17 x18 x19 x20 x21 x22 x23 x24 x25 x26 x27 x28 x29 x30 x31 x32 x33 x34 x35 x36 x37 x38 x39 x40 x41 x42 x43 x44 x45 x46 x47 x48 x49 x50 x51 x52 x53 x54 x55 x56 x57 : α} {r : List α} : List.set (x0 :: x1 :: x2 :: x3 :: x4 :: x5 :: x6 :: x7 :: x8 :: x9 :: x10 :: x11 :: x12 :: x13 :: x14 :: x15 :: x16 :: x17 :: x18 :: x19 :: x20 :: x21 :: x22 :: x23 :: x24 :: x25 :: x26 :: x27 :: x28 :: x29 :: x30 :: x31 :: x32 :: x33 :: x34 :: x35 :: x36 :: x37 :: x38 :: x39 :: x40 :: x41 :: x42 :: x43 :: x44 :: x45 :: x46 :: x47 :: x48 :: x49 :: x50 :: x51 :: x52 :: x53 :: x54 :: x55 :: x56 :: x57 :: r) 57 v = x0 :: x1 :: x2 :: x3 :: x4 :: x5 :: x6 :: x7 :: x8 :: x9 :: x10 :: x11 :: x12 :: x13 :: x14 :: x15 :: x16 :: x17 :: x18 :: x19 :: x20 :: x21 :: x22 :: x23 :: x24 :: x25 :: x26 :: x27 :: x28 :: x29 :: x30 :: x31 :: x32 :: x33 :: x34 :: x35 :: x36 :: x37 :: x38 :: x39 :: x40 :: x41 :: x42 :: x43 :: x44 :: x45 :: x46 :: x47 :: x48 :: x49 :: x50 :: x51 :: x52 :: x53 :: x54 :: x55 :: x56 :: v :: r := id rfl
theorem st58 {x0 x1 x2 x3 x4 x5 x6 x7 x8 x9 x10 x11 x12 x13 x14 x15 x16 x17 x18 x19 x20 x21 x22 x23 x24 x25 x26 x27 x28 x29 x30 x31 x32 x33 x34 x35 x36 x37 x38 x39 x40 x41 x42 x43 x44 x45 x46 x47 x48 x49 x50 x51 x52 x53 x54 x55 x56 x57 x58 : α} {r : List α} : List.set (x0 :: x1 :: x2 :: x3 :: x4 :: x5 :: x6 :: x7 :: x8 :: x9 :: x10 :: x11 :: x12 :: x13 :: x14 :: x15 :: x16 :: x17 :: x18 :: x19 :: x20 :: x21 :: x22 :: x23 :: x24 :: x25 :: x26 :: x27 :: x28 :: x29 :: x30 :: x31 :: x32 :: x33 :: x34 :: x35 :: x36 :: x37 :: x38 :: x39 :: x40 :: x41 :: x42 :: x43 :: x44 :: x45 :: x46 :: x47 :: x48 :: x49 :: x50 :: x51 :: x52 :: x53 :: x54 :: x55 :: x56 :: x57 :: x58 :: r) 58 v = x0 :: x1 :: x2 :: x3 :: x4 :: x5 :: x6 :: x7 :: x8 :: x9 :: x10 :: x11 :: x12 :: x13 :: x14 :: x15 :: x16 :: x17 :: x18 :: x19 :: x20 :: x21 :: x22 :: x23 :: x24 :: x25 :: x26 :: x27 :: x28 :: x29 :: x30 :: x31 :: x32 :: x33 :: x34 :: x35 :: x36 :: x37 :: x38 :: x39 :: x40 :: x41 :: x42 :: x43 :: x44 :: x45 :: x46 :: x47 :: x48 :: x49 :: x50 :: x51 :: x52 :: x53 :: x54 :: x55 :: x56 :: x57 :: v :: r := id rfl
theorem st59 {x0 x1 x2 x3 x4 x5 x6 x7 x8 x9 x10 x11 x12 x13 x14 x15 x16 x17 x18 x19 x20 x21 x22 x23 x24 x25 x26 x27 x28 x29 x30 x31 x32 x33 x34 x35 x36 x37 x38 x39 x40 x41 x42 x43 x44 x45 x46 x47 x48 x49 x50 x51 x52 x53 x54 x55 x56 x57 x58 x59 : α} {r : List α} : List.set (x0 :: x1 :: x2 :: x3 :: x4 :: x5 :: x6 :: x7 :: x8 :: x9 :: x10 :: x11 :: x12 :: x13 :: x14 :: x15 :: x16 :: x17 :: x18 :: x19 :: x20 :: x21 :: x22 :: x23 :: x24 :: x25 :: x26 :: x27 :: x28 :: x29 :: x30 :: x31 :: x32 :: x33 :: x34 :: x35 :: x36 :: x37 :: x38 :: x39 :: x40 :: x41 :: x42 :: x43 :: x44 :: x45 :: x46 :: x47 :: x48 :: x49 :: x50 :: x51 :: x52 :: x53 :: x54 :: x55 :: x56 :: x57 :: x58 :: x59 :: r) 59 v = x0 :: x1 :: x2 :: x3 :: x4 :: x5 :: x6 :: x7 :: x8 :: x9 :: x10 :: x11 :: x12 :: x13 :: x14 :: x15 :: x16 :: x17 :: x18 :: x19 :: x20 :: x21 :: x22 :: x23 :: x24 :: x25 :: x26 :: x27 :: x28 :: x29 :: x30 :: x31 :: x32 :: x33 :: x34 :: x35 :: x36 :: x37 :: x38 :: x39 :: x40 :: x41 :: x42 :: x43 :: x44 :: x45 :: x46 :: x47 :: x48 :: x49 :: x50 :: x51 :: x52 :: x53 :: x54 :: x55 :: x56 :: x57 :: x58 :: v :: r := id rfl
theorem st60 {x0 x1 x2 x3 x4 x5 x6 x7 x8 x9 x10 x11 x12 x13 x14 x15 x16 x17 x18 x19 x20 x21 x22 x23 x24 x25 x26 x27 x28 x29 x30 x31 x32 x33 x34 x35 x36 x37 x38 x39 x40 x41 x42 x43 x44 x45 x46 x47 x48 x49 x50 x51 x52 x53 x54 x55 x56 x57 x58 x59 x60 : α} {r : List α} : List.set (x0 :: x1 :: x2 :: x3 :: x4 :: x5 :: x6 :: x7 :: x8 :: x9 :: x10 :: x11 :: x12 :: x13 :: x14 :: x15 :: x16 :: x17 :: x18 :: x19 :: x20 :: x21 :: x22 :: x23 :: x24 :: x25 :: x26 :: x27 :: x28 :: x29 :: x30 :: x31 :: x32 :: x33 :: x34 :: x35 :: x36 :: x37 :: x38 :: x39 :: x40 :: x41 :: x42 :: x43 :: x44 :: x45 :: x46 :: x47 :: x48 :: x49 :: x50 :: x51 :: x52 :: x53 :: x54 :: x55 :: x56 :: x57 :: x58 :: x59 :: x60 :: r) 60 v = x0 :: x1 :: x2 :: x3 :: x4 :: x5 :: x6 :: x7 :: x8 :: x9 :: x10 :: x11 :: x12 :: x13 :: x14 :: x15 :: x16 :: x17 :: x18 :: x19 :: x20 :: x21 :: x22 :: x23 :: x24 :: x25 :: x26 :: x27 :: x28 :: x29 :: x30 :: x31 :: x32 :: x33 :: x34 :: x35 :: x36 :: x37 :: x38 :: x39 :: x40 :: x41 :: x42 :: x43 :: x44 :: x45 :: x46 :: x47 :: x48 :: x49 :: x50 :: x51 :: x52 :: x53 :: x54 :: x55 :: x56 :: x57 :: x58 :: x59 :: v :: r := id rfl
theorem st61 {x0 x1 x2 x3 x4 x5 x6 x7 x8 x9 x10 x11 x12 x13 x14 x15 x16 x17 x18 x19 x20 x21 x22 x23 x24 x25 x26 x27 x28 x29 x30 x31 x32 x33 x34 x35 x36 x37 x38 x39 x40 x41 x42 x43 x44 x45 x46 x47 x48 x49 x50 x51 x52 x53 x54 x55 x56 x57 x58 x59 x60 x61 : α} {r : List α} : List.set (x0 :: x1 :: x2 :: x3 :: x4 :: x5 :: x6 :: x7 :: x8 :: x9 :: x10 :: x11 :: x12 :: x13 :: x14 :: x15 :: x16 :: x17 :: x18 :: x19 :: x20 :: x21 :: x22 :: x23 :: x24 :: x25 :: x26 :: x27 :: x28 :: x29 :: x30 :: x31 :: x32 :: x33 :: x34 :: x35 :: x36 :: x37 :: x38 :: x39 :: x40 :: x41 :: x42 :: x43 :: x44 :: x45 :: x46 :: x47 :: x48 :: x49 :: x50 :: x51 :: x52 :: x53 :: x54 :: x55 :: x56 :: x57 :: x58 :: x59 :: x60 :: x61 :: r) 61 v = x0 :: x1 :: x2 :: x3 :: x4 :: x5 :: x6 :: x7 :: x8 :: x9 :: x10 :: x11 :: x12 :: x13 :: x14 :: x15 :: x16 :: x17 :: x18 :: x19 :: x20 :: x21 :: x22 :: x23 :: x24 :: x25 :: x26 :: x27 :: x28 :: x29 :: x30 :: x31 :: x32 :: x33 :: x34 :: x35 :: x36 :: x37 :: x38 :: x39 :: x40 :: x41 :: x42 :: x43 :: x44 :: x45 :: x46 :: x47 :: x48 :: x49 :: x50 :: x51 :: x52 :: x53 :: x54 :: x55 :: x56 :: x57 :: x58 :: x59 :: x60 :: v :: r := id rfl
theorem st62 {x0 x1 x2 x3 x4 x5 x6 x7 x8 x9 x10 x11 x12 x13 x14 x15 x16 x17 x18 x19 x20 x21 x22 x23 x24 x25 x26 x27 x28 x29 x30 x31 x32 x33 x34 x35 x36 x37 x38 x39 x40 x41 x42 x43 x44 x45 x46 x47 x48 x49 x50 x51 x52 x53 x54 x55 x56 x57 x58 x59 x60 x61 x62 : α} {r : List α} : List.set (x0 :: x1 :: x2 :: x3 :: x4 :: x5 :: x6 :: x7 :: x8 :: x9 :: x10 :: x11 :: x12 :: x13 :: x14 :: x15 :: x16 :: x17 :: x18 :: x19 :: x20 :: x21 :: x22 :: x23 :: x24 :: x25 :: x26 :: x27 :: x28 :: x29 :: x30 :: x31 :: x32 :: x33 :: x34 :: x35 :: x36 :: x37 :: x38 :: x39 :: x40 :: x41 :: x42 :: x43 :: x44 :: x45 :: x46 :: x47 :: x48 :: x49 :: x50 :: x51 :: x52 :: x53 :: x54 :: x55 :: x56 :: x57 :: x58 :: x59 :: x60 :: x61 :: x62 :: r) 62 v = x0 :: x1 :: x2 :: x3 :: x4 :: x5 :: x6 :: x7 :: x8 :: x9 :: x10 :: x11 :: x12 :: x13 :: x14 :: x15 :: x16 :: x17 :: x18 :: x19 :: x20 :: x21 :: x22 :: x23 :: x24 :: x25 :: x26 :: x27 :: x28 :: x29 :: x30 :: x31 :: x32 :: x33 :: x34 :: x35 :: x36 :: x37 :: x38 :: x39 :: x40 :: x41 :: x42 :: x43 :: x44 :: x45 :: x46 :: x47 :: x48 :: x49 :: x50 :: x51 :: x52 :: x53 :: x54 :: x55 :: x56 :: x57 :: x58 :: x59 :: x60 :: x61 :: v :: r := id rfl
theorem st63 {x0 x1 x2 x3 x4 x5 x6 x7 x8 x9 x10 x11 x12 x13 x14 x15 x16 x17 x18 x19 x20 x21 x22 x23 x24 x25 x26 x27 x28 x29 x30 x31 x32 x33 x34 x35 x36 x37 x38 x39 x40 x41 x42 x43 x44 x45 x46 x47 x48 x49 x50 x51 x52 x53 x54 x55 x56 x57 x58 x59 x60 x61 x62 x63 : α} {r : List α} : List.set (x0 :: x1 :: x2 :: x3 :: x4 :: x5 :: x6 :: x7 :: x8 :: x9 :: x10 :: x11 :: x12 :: x13 :: x14 :: x15 :: x16 :: x17 :: x18 :: x19 :: x20 :: x21 :: x22 :: x23 :: x24 :: x25 :: x26 :: x27 :: x28 :: x29 :: x30 :: x31 :: x32 :: x33 :: x34 :: x35 :: x36 :: x37 :: x38 :: x39 :: x40 :: x41 :: x42 :: x43 :: x44 :: x45 :: x46 :: x47 :: x48 :: x49 :: x50 :: x51 :: x52 :: x53 :: x54 :: x55 :: x56 :: x57 :: x58 :: x59 :: x60 :: x61 :: x62 :: x63 :: r) 63 v = x0 :: x1 :: x2 :: x3 :: x4 :: x5 :: x6 :: x7 :: x8 :: x9 :: x10 :: x11 :: x12 :: x13 :: x14 :: x15 :: x16 :: x17 :: x18 :: x19 :: x20 :: x21 :: x22 :: x23 :: x24 :: x25 :: x26 :: x27 :: x28 :: x29 :: x30 :: x31 :: x32 :: x33 :: x34 :: x35 :: x36 :: x37 :: x38 :: x39 :: x40 :: x41 :: x42 :: x43 :: x44 :: x45 :: x46 :: x47 :: x48 :: x49 :: x50 :: x51 :: x52 :: x53 :: x54 :: x55 :: x56 :: x57 :: x58 :: x59 :: x60 :: x61 :: x62 :: v :: r := id rfl
theorem gx0 {x0 : α} {r : List α} : (x0 :: r)[0]? = some x0 := id rfl
theorem gx1 {x0 x1 : α} {r : List α} : (x0 :: x1 :: r)[1]? = some x1 := id rfl
theorem gx2 {x0 x1 x2 : α} {r : List α} : (x0 :: x1 :: x2 :: r)[2]? = some x2 := id rfl
theorem gx3 {x0 x1 x2 x3 : α} {r : List α} : (x0 :: x1 :: x2 :: x3 :: r)[3]? = some x3 := id rfl
theorem gx4 {x0 x1 x2 x3 x4 : α} {r : List α} : (x0 :: x1 :: x2 :: x3 :: x4 :: r)[4]? = some x4 := id rfl
theorem gx5 {x0 x1 x2 x3 x4 x5 : α} {r : List α} : (x0 :: x1 :: x2 :: x3 :: x4 :: x5 :: r)[5]? = some x5 := id rfl
theorem gx6 {x0 x1 x2 x3 x4 x5 x6 : α} {r : List α} : (x0 :: x1 :: x2 :: x3 :: x4 :: x5 :: x6 :: r)[6]? = some x6 := id rfl
theorem gx7 {x0 x1 x2 x3 x4 x5 x6 x7 : α} {r : List α} : (x0 :: x1 :: x2 :: x3 :: x4 :: x5 :: x6 :: x7 :: r)[7]? = some x7 := id rfl
theorem gx8 {x0 x1 x2 x3 x4 x5 x6 x7 x8 : α} {r : List α} : (x0 :: x1 :: x2 :: x3 :: x4 :: x5 :: x6 :: x7 :: x8 :: r)[8]? = some x8 := id rfl
theorem gx9 {x0 x1 x2 x3 x4 x5 x6 x7 x8 x9 : α} {r : List α} : (x0 :: x1 :: x2 :: x3 :: x4 :: x5 :: x6 :: x7 :: x8 :: x9 :: r)[9]? = some x9 := id rfl
theorem gx10 {x0 x1 x2 x3 x4 x5 x6 x7 x8 x9 x10 : α} {r : List α} : (x0 :: x1 :: x2 :: x3 :: x4 :: x5 :: x6 :: x7 :: x8 :: x9 :: x10 :: r)[10]? = some x10 := id rfl
theorem gx11 {x0 x1 x2 x3 x4 x5 x6 x7 x8 x9 x10 x11 : α} {r : List α} : (x0 :: x1 :: x2 :: x3 :: x4 :: x5 :: x6 :: x7 :: x8 :: x9 :: x10 :: x11 :: r)[11]? = some x11 := id rfl
theorem gx12 {x0 x1 x2 x3 x4 x5 x6 x7 x8 x9 x10 x11 x12 : α} {r : List α} : (x0 :: x1 :: x2 :: x3 :: x4 :: x5 :: x6 :: x7 :: x8 :: x9 :: x10 :: x11 :: x12 :: r)[12]? = some x12 := id rfl
theorem gx13 {x0 x1 x2 x3 x4 x5 x6 x7 x8 x9 x10 x11 x12 x13 : α} {r : List α} : (x0 :: x1 :: x2 :: x3 :: x4 :: x5 :: x6 :: x7 :: x8 :: x9 :: x10 :: x11 :: x12 :: x13 :: r)[13]? = some x13 := id rfl
theorem gx14 {x0 x1 x2 x3 x4 x5 x6 x7 x8 x9 x10 x11 x12 x13 x14 : α} {r : List α} : (x0 :: x1 :: x2 :: x3 :: x4 :: x5 :: x6 :: x7 :: x8 :: x9 :: x10 :: x11 :: x12 :: x13 :: x14 :: r)[14]? = some x14 := id rfl
theorem gx15 {x0 x1 x2 x3 x4 x5 x6 x7 x8 x9 x10 x11 x12 x13 x14 x15 : α} {r : List α} : (x0 :: x1 :: x2 :: x3 :: x4 :: x5 :: x6 :: x7 :: x8 :: x9 :: x10 :: x11 :: x12 :: x13 :: x14 :: x15 :: r)[15]? = some x15 := id rfl
theorem gx16 {x0 x1 x2 x3 x4 x5 x6 x7 x8 x9 x10 x11 x12 x13 x14 x15 x16 : α} {r : List α} : (x0 :: x1 :: x2 :: x3 :: x4 :: x5 :: x6 :: x7 :: x8 :: x9 :: x10 :: x11 :: x12 :: x13 :: x14 :: x15 :: x16 :: r)[16]? = some x16 := id rfl
theorem gx17 {x0 x1 x2 x3 x4 x5 x6 x7 x8 x9 x10 x11 x12 x13 x14 x15 x16 x17 : α} {r : List α} : (x0 :: x1 :: x2 :: x3 :: x4 :: x5 :: x6 :: x7 :: x8 :: x9 :: x10 :: x11 :: x12 :: x13 :: x14 :: x15 :: x16 :: x17 :: r)[17]? = some x17 := id rfl
theorem gx18 {x0 x1 x2 x3 x4 x5 x6 x7 x8 x9 x10 x11 x12 x13 x14 x15 x16 x17 x18 : α} {r : List α} : (x0 :: x1 :: x2 :: x3 :: x4 :: x5 :: x6 :: x7 :: x8 :: x9 :: x10 :: x11 :: x12 :: x13 :: x14 :: x15 :: x16 :: x17 :: x18 :: r)[18]? = some x18 := id rfl
theorem gx19 {x0 x1 x2 x3 x4 x5 x6 x7 x8 x9 x10 x11 x12 x13 x14 x15 x16 x17 x18 x19 : α} {r : List α} : (x0 :: x1 :: x2 :: x3 :: x4 :: x5 :: x6 :: x7 :: x8 :: x9 :: x10 :: x11 :: x12 :: x13 :: x14 :: x15 :: x16 :: x17 :: x18 :: x19 :: r)[19]? = some x19 := id rfl
theorem gx20 {x0 x1 x2 x3 x4 x5 x6 x7 x8 x9 x10 x11 x12 x13 x14 x15 x16 x17 x18 x19 x20 : α} {r : List α} : (x0 :: x1 :: x2 :: x3 :: x4 :: x5 :: x6 :: x7 :: x8 :: x9 :: x10 :: x11 :: x12 :: x13 :: x14 :: x15 :: x16 :: x17 :: x18 :: x19 :: x20 :: r)[20]? = some x20 := id rfl
theorem gx21 {x0 x1 x2 x3 x4 x5 x6 x7 x8 x9 x10 x11 x12 x13 x14 x15 x16 x17 x18 x19 x20 x21 : α} {r : List α} : (x0 :: x1 :: x2 :: x3 :: x4 :: x5 :: x6 :: x7 :: x8 :: x9 :: x10 :: x11 :: x12 :: x13 :: x14 :: x15 :: x16 :: x17 :: x18 :: x19 :: x20 :: x21 :: r)[21]? = some x21 := id rfl
theorem gx22 {x0 x1 x2 x3 x4 x5 x6 x7 x8 x9 x10 x11 x12 x13 x14 x15 x16 x17 x18 x19 x20 x21 x22 : α} {r : List α} : (x0 :: x1 :: x2 :: x3 :: x4 :: x5 :: x6 :: x7 :: x8 :: x9 :: x10 :: x11 :: x12 :: x13 :: x14 :: x15 :: x16 :: x17 :: x18 :: x19 :: x20 :: x21 :: x22 :: r)[22]? = some x22 := id rfl
theorem gx23 {x0 x1 x2 x3 x4 x5 x6 x7 x8 x9 x10 x11 x12 x13 x14 x15 x16 x17 x18 x19 x20 x21 x22 x23 : α} {r : List α} : (x0 :: x1 :: x2 :: x3 :: x4 :: x5 :: x6 :: x7 :: x8 :: x9 :: x10 :: x11 :: x12 :: x13 :: x14 :: x15 :: x16 :: x17 :: x18 :: x19 :: x20 :: x21 :: x22 :: x23 :: r)[23]? = some x23 := id rfl
theorem rg0 : List.range 0 = [] := id rfl
theorem rg1 : List.range 1 = [0] := id rfl
theorem rg2 : List.range 2 = [0, 1] := id rfl
theorem rg3 : List.range 3 = [0, 1, 2] := id rfl
theorem rg4 : List.range 4 = [0, 1, 2, 3] := id rfl
theorem rg5 : List.range 5 = [0, 1, 2, 3, 4] := id rfl
theorem rg6 : List.range 6 = [0, 1, 2, 3, 4, 5] := id rfl
theorem rg7 : List.range 7 = [0, 1, 2, 3, 4, 5, 6] := id rfl
theorem rg8 : List.range 8 = [0, 1, 2, 3, 4, 5, 6, 7] := id rfl
theorem rg9 : List.range 9 = [0, 1, 2, 3, 4, 5, 6, 7, 8] := id rfl
theorem rg10 : List.range 10 = [0, 1, 2, 3, 4, 5, 6, 7, 8, 9] := id rfl
theorem rg11 : List.range 11 = [0, 1, 2, 3, 4, 5, 6, 7, 8, 9, 10] := id rfl
theorem rp0 : List.replicate 0 v = [] := id rfl
theorem rp1 : List.replicate 1 v = [v] := id rfl
theorem rp2 : List.replicate 2 v = [v, v] := id rfl
theorem rp3 : List.replicate 3 v = [v, v, v] := id rfl
theorem rp4 : List.replicate 4 v = [v, v, v, v] := id rfl
theorem rp5 : List.replicate 5 v = [v, v, v, v, v] := id rfl
theorem rp6 : List.replicate 6 v = [v, v, v, v, v, v] := id rfl
theorem rp7 : List.replicate 7 v = [v, v, v, v, v, v, v] := id rfl
theorem rp8 : List.replicate 8 v = [v, v, v, v, v, v, v, v] := id rfl
theorem rp9 : List.replicate 9 v = [v, v, v, v, v, v, v, v, v] := id rfl
theorem rp10 : List.replicate 10 v = [v, v, v, v, v, v, v, v, v, v] := id rfl
theorem rp11 : List.replicate 11 v = [v, v, v, v, v, v, v, v, v, v, v] := id rfl
theorem rp12 : List.replicate 12 v = [v, v, v, v, v, v, v, v, v, v, v, v] := id rfl
theorem rp13 : List.replicate 13 v = [v, v, v, v, v, v, v, v, v, v, v, v, v] := id rfl
theorem rp14 : List.replicate 14 v = [v, v, v, v, v, v, v, v, v, v, v, v, v, v] := id rfl
theorem rp15 : List.replicate 15 v = [v, v, v, v, v, v, v, v, v, v, v, v, v, v, v] := id rfl
theorem rp16 : List.replicate 16 v = [v, v, v, v, v, v, v, v, v, v, v, v, v, v, v, v] := id rfl
theorem rp17 : List.replicate 17 v = [v, v, v, v, v, v, v, v, v, v, v, v, v, v, v, v, v] := id rfl
theorem rp18 : List.replicate 18 v = [v, v, v, v, v, v, v, v, v, v, v, v, v, v, v, v, v, v] := id rfl
theorem rp19 : List.replicate 19 v = [v, v, v, v, v, v, v, v, v, v, v, v, v, v, v, v, v, v, v] := id rfl
theorem rp20 : List.replicate 20 v = [v, v, v, v, v, v, v, v, v, v, v, v, v, v, v, v, v, v, v, v] := id rfl
theorem rp21 : List.replicate 21 v = [v, v, v, v, v, v, v, v, v, v, v, v, v, v, v, v, v, v, v, v, v] := id rfl
theorem rp22 : List.replicate 22 v = [v, v, v, v, v, v, v, v, v, v, v, v, v, v, v, v, v, v, v, v, v, v] := id rfl
theorem rp23 : List.replicate 23 v = [v, v, v, v, v, v, v, v, v, v, v, v, v, v, v, v, v, v, v, v, v, v, v] := id rfl
theorem rp24 : List.replicate 24 v = [v, v, v, v, v, v, v, v, v, v, v, v, v, v, v, v, v, v, v, v, v, v, v, v] := id rfl
theorem rp25 : List.replicate 25 v = [v, v, v, v, v, v, v, v, v, v, v, v, v, v, v, v, v, v, v, v, v, v, v, v, v] := id rfl
theorem rp26 : List.replicate 26 v = [v, v, v, v, v, v, v, v, v, v, v, v, v, v, v, v, v, v, v, v, v, v, v, v, v, v] := id rfl
theorem rp27 : List.replicate 27 v = [v, v, v, v, v, v, v, v, v, v, v, v, v, v, v, v, v, v, v, v, v, v, v, v, v, v, v] := id rfl
theorem rp28 : List.replicate 28 v = [v, v, v, v, v, v, v, v, v, v, v, v, v, v, v, v, v, v, v, v, v, v, v, v, v, v, v, v] := id rfl
theorem rp29 : List.replicate 29 v = [v, v, v, v, v, v, v, v, v, v, v, v, v, v, v, v, v, v, v, v, v, v, v, v, v, v, v, v, v] := id rfl
theorem rp30 : List.replicate 30 v = [v, v, v, v, v, v, v, v, v, v, v, v, v, v, v, v, v, v, v, v, v, v, v, v, v, v, v, v, v, v] := id rfl
theorem rp31 : List.replicate 31 v = [v, v, v, v, v, v, v, v, v, v, v, v, v, v, v, v, v, v, v, v, v, v, v, v, v, v, v, v, v, v, v] := id rfl
theorem rp32 : List.replicate 32 v = [v, v, v, v, v, v, v, v, v, v, v, v, v, v, v, v, v, v, v, v, v, v, v, v, v, v, v, v, v, v, v, v] := id rfl
theorem rp33 : List.replicate 33 v = [v, v, v, v, v, v, v, v, v, v, v, v, v, v, v, v, v, v, v, v, v, v, v, v, v, v, v, v, v, v, v, v, v] := id rfl
theorem rp34 : List.replicate 34 v = [v, v, v, v, v, v, v, v, v, v, v, v, v, v, v, v, v, v, v, v, v, v, v, v, v, v, v, v, v, v, v, v, v, v] := id rfl
theorem rp35 : List.replicate 35 v = [v, v, v, v, v, v, v, v, v, v, v, v, v, v, v, v, v, v, v, v, v, v, v, v, v, v, v, v, v, v, v, v, v, v, v] := id rfl
theorem rp36 : List.replicate 36 v = [v, v, v, v, v, v, v, v, v, v, v, v, v, v, v, v, v, v, v, v, v, v, v, v, v, v, v, v, v, v, v, v, v, v, v, v] := id rfl
theorem rp37 : List.replicate 37 v = [v, v, v, v, v, v, v, v, v, v, v, v, v, v, v, v, v, v, v, v, v, v, v, v, v, v, v, v, v, v, v, v, v, v, v, v, v] := id rfl
theorem rp38 : List.replicate 38 v = [v, v, v, v, v, v, v, v, v, v, v, v, v, v, v, v, v, v, v, v, v, v, v, v, v, v, v, v, v, v, v, v, v, v, v, v, v, v] := id rfl
theorem rp39 : List.replicate 39 v = [v, v, v, v, v, v, v, v, v, v, v, v, v, v, v, v, v, v, v, v, v, v, v, v, v, v, v, v, v, v, v, v, v, v, v, v, v, v, v] := id rfl
theorem rp40 : List.replicate 40 v = [v, v, v, v, v, v, v, v, v, v, v, v, v, v, v, v, v, v, v, v, v, v, v, v, v, v, v, v, v, v, v, v, v, v, v, v, v, v, v, v] := id rfl
theorem rp41 : List.replicate 41 v = [v, v, v, v, v, v, v, v, v, v, v, v, v, v, v, v, v, v, v, v, v, v, v, v, v, v, v, v, v, v, v, v, v, v, v, v, v, v, v, v, v] := id rfl
theorem rp42 : List.replicate 42 v = [v, v, v, v, v, v, v, v, v, v, v, v, v, v, v, v, v, v, v, v, v, v, v, v, v, v, v, v, v, v, v, v, v, v, v, v, v, v, v, v, v, v] := id rfl
theorem rp43 : List.replicate 43 v = [v, v, v, v, v, v, v, v, v, v, v, v, v, v, v, v, v, v, v, v, v, v, v, v, v, v, v, v, v, v, v, v, v, v, v, v, v, v, v, v, v, v, v] := id rfl
theorem rp44 : List.replicate 44 v = [v, v, v, v, v, v, v, v, v, v, v, v, v, v, v, v, v, v, v, v, v, v, v, v, v, v, v, v, v, v, v, v, v, v, v, v, v, v, v, v, v, v, v, v] := id rfl
theorem rp45 : List.replicate 45 v = [v, v, v, v, v, v, v, v, v, v, v, v, v, v, v, v, v, v, v, v, v, v, v, v, v, v, v, v, v, v, v, v, v, v, v, v, v, v, v, v, v, v, v, v, v] := id rfl
theorem rp46 : List.replicate 46 v = [v, v, v, v, v, v, v, v, v, v, v, v, v, v, v, v, v, v, v, v, v, v, v, v, v, v, v, v, v, v, v, v, v, v, v, v, v, v, v, v, v, v, v, v, v, v] := id rfl
theorem rp47 : List.replicate 47 v = [v, v, v, v, v, v, v, v, v, v, v, v, v, v, v, v, v, v, v, v, v, v, v, v, v, v, v, v, v, v, v, v, v, v, v, v, v, v, v, v, v, v, v, v, v, v, v] := id rfl
theorem rp48 : List.replicate 48 v = [v, v, v, v, v, v, v, v, v, v, v, v, v, v, v, v, v, v, v, v, v, v, v, v, v, v, v, v, v, v, v, v, v, v, v, v, v, v, v, v, v, v, v, v, v, v, v, v] := id rfl
theorem rp49 : List.replicate 49 v = [v, v, v, v, v, v, v, v, v, v, v, v, v, v, v, v, v, v, v, v, v, v, v, v, v, v, v, v, v, v, v, v, v, v, v, v, v, v, v, v, v, v, v, v, v, v, v, v, v] := id rfl
theorem rp50 : List.replicate 50 v = [v, v, v, v, v, v, v, v, v, v, v, v, v, v, v, v, v, v, v, v, v, v, v, v, v, v, v, v, v, v, v, v, v, v, v, v, v, v, v, v, v, v, v, v, v, v, v, v, v, v] := id rfl
theorem rp51 : List.replicate 51 v = [v, v, v, v, v, v, v, v, v, v, v, v, v, v, v, v, v, v, v, v, v, v, v, v, v, v, v, v, v, v, v, v, v, v, v, v, v, v, v, v, v, v, v, v, v, v, v, v, v, v, v] := id rfl
theorem rp52 : List.replicate 52 v = [v, v, v, v, v, v, v, v, v, v, v, v, v, v, v, v, v, v, v, v, v, v, v, v, v, v, v, v, v, v, v, v, v, v, v, v, v, v, v, v, v, v, v, v, v, v, v, v, v, v, v, v] := id rfl
theorem rp53 : List.replicate 53 v = [v, v, v, v, v, v, v, v, v, v, v, v, v, v, v, v, v, v, v, v, v, v, v, v, v, v, v, v, v, v, v, v, v, v, v, v, v, v, v, v, v, v, v, v, v, v, v, v, v, v, v, v, v] := id rfl
theorem rp54 : List.replicate 54 v = [v, v, v, v, v, v, v, v, v, v, v, v, v, v, v, v, v, v, v, v, v, v, v, v, v, v, v, v, v, v, v, v, v, v, v, v, v, v, v, v, v, v, v, v, v, v, v, v, v, v, v, v, v, v] := id rfl
theorem rp55 : List.replicate 55 v = [v, v, v, v, v, v, v, v, v, v, v, v, v, v, v, v, v, v, v, v, v, v, v, v, v, v, v, v, v, v, v, v, v, v, v, v, v, v, v, v, v, v, v, v, v, v, v, v, v, v, v, v, v, v, v] := id rfl
theorem rp56 : List.replicate 56 v = [v, v, v, v, v, v, v, v, v, v, v, v, v, v, v, v, v, v, v, v, v, v, v, v, v, v, v, v, v, v, v, v, v, v, v, v, v, v, v, v, v, v, v, v, v, v, v, v, v, v, v, v, v, v, v, v] := id rfl
theorem rp57 : List.replicate 57 v = [v, v, v, v, v, v, v, v, v, v, v, v, v, v, v, v, v, v, v, v, v, v, v, v, v, v, v, v, v, v, v, v, v, v, v, v, v, v, v, v, v, v, v, v, v, v, v, v, v, v, v, v, v, v, v, v, v] := id rfl
theorem rp58 : List.replicate 58 v = [v, v, v, v, v, v, v, v, v, v, v, v, v, v, v, v, v, v, v, v, v, v, v, v, v, v, v, v, v, v, v, v, v, v, v, v, v, v, v, v, v, v, v, v, v, v, v, v, v, v, v, v, v, v, v, v, v, v] := id rfl
theorem rp59 : List.replicate 59 v = [v, v, v, v, v, v, v, v, v, v, v, v, v, v, v, v, v, v, v, v, v, v, v, v, v, v, v, v, v, v, v, v, v, v, v, v, v, v, v, v, v, v, v, v, v, v, v, v, v, v, v, v, v, v, v, v, v, v, v] := id rfl
theorem rp60 : List.replicate 60 v = [v, v, v, v, v, v, v, v, v, v, v, v, v, v, v, v, v, v, v, v, v, v, v, v, v, v, v, v, v, v, v, v, v, v, v, v, v, v, v, v, v, v, v, v, v, v, v, v, v, v, v, v, v, v, v, v, v, v, v, v] := id rfl
theorem rp61 : List.replicate 61 v = [v, v, v, v, v, v, v, v, v, v, v, v, v, v, v, v, v, v, v, v, v, v, v, v, v, v, v, v, v, v, v, v, v, v, v, v, v, v, v, v, v, v, v, v, v, v, v, v, v, v, v, v, v, v, v, v, v, v, v, v, v] := id rfl
theorem rp62 : List.replicate 62 v = [v, v, v, v, v, v, v, v, v, v, v, v, v, v, v, v, v, v, v, v, v, v, v, v, v, v, v, v, v, v, v, v, v, v, v, v, v, v, v, v, v, v, v, v, v, v, v, v, v, v, v, v, v, v, v, v, v, v, v, v, v, v] := id rfl
theorem rp63 : List.replicate 63 v = [v, v, v, v, v, v, v, v, v, v, v, v, v, v, v, v, v, v, v, v, v, v, v, v, v, v, v, v, v, v, v, v, v, v, v, v, v, v, v, v, v, v, v, v, v, v, v, v, v, v, v, v, v, v, v, v, v, v, v, v, v, v, v] := id rfl
theorem rp64 : List.replicate 64 v = [v, v, v, v, v, v, v, v, v, v, v, v, v, v, v, v, v, v, v, v, v, v, v, v, v, v, v, v, v, v, v, v, v, v, v, v, v, v, v, v, v, v, v, v, v, v, v, v, v, v, v, v, v, v, v, v, v, v, v, v, v, v, v, v] := id rfl
theorem rp65 : List.replicate 65 v = [v, v, v, v, v, v, v, v, v, v, v, v, v, v, v, v, v, v, v, v, v, v, v, v, v, v, v, v, v, v, v, v, v, v, v, v, v, v, v, v, v, v, v, v, v, v, v, v, v, v, v, v, v, v, v, v, v, v, v, v, v, v, v, v, v] := id rfl
theorem rp66 : List.replicate 66 v = [v, v, v, v, v, v, v, v, v, v, v, v, v, v, v, v, v, v, v, v, v, v, v, v, v, v, v, v, v, v, v, v, v, v, v, v, v, v, v, v, v, v, v, v, v, v, v, v, v, v, v, v, v, v, v, v, v, v, v, v, v, v, v, v, v, v] := id rfl
theorem rp67 : List.replicate 67 v = [v, v, v, v, v, v, v, v, v, v, v, v, v, v, v, v, v, v, v, v, v, v, v, v, v, v, v, v, v, v, v, v, v, v, v, v, v, v, v, v, v, v, v, v, v, v, v, v, v, v, v, v, v, v, v, v, v, v, v, v, v, v, v, v, v, v, v] := id rfl
theorem rp68 : List.replicate 68 v = [v, v, v, v, v, v, v, v, v, v, v, v, v, v, v, v, v, v, v, v, v, v, v, v, v, v, v, v, v, v, v, v, v, v, v, v, v, v, v, v, v, v, v, v, v, v, v, v, v, v, v, v, v, v, v, v, v, v, v, v, v, v, v, v, v, v, v, v] := id rfl
theorem rp69 : List.replicate 69 v = [v, v, v, v, v, v, v, v, v, v, v, v, v, v, v, v, v, v, v, v, v, v, v, v, v, v, v, v, v, v, v, v, v, v, v, v, v, v, v, v, v, v, v, v, v, v, v, v, v, v, v, v, v, v, v, v, v, v, v, v, v, v, v, v, v, v, v, v, v] := id rfl
end
end Go.Vm

/- Evaluating: one step of the machine at a time. -/
namespace Go.Vm
open Go
def thenC (r : Option (AExit × S)) (k : S → Option (AExit × S)) : Option (AExit × S) :=
  match r with
  | some (.normal, s) => k s
  | r => r
def blkC (id : Nat) (r : Option (AExit × S)) : Option (AExit × S) :=
  match r with
  | some (.exit i, s) => some (if i = id then .normal else .exit i, s)
  | r => r
def regC (r : Option S) : Option (AExit × S) := match r with | some s => some (.normal, s) | none => none
def envC (r : Option (List AV × S)) : Option S := match r with | some (_, s) => some s | none => none
def outC (cx : Cx) (out : List Nat) (r : Option (AExit × S)) : Option (AExit × S) := match r with | some (x, s') => some (x, head cx out s') | none => none
section
variable {lo : Lower} {cx : Cx} {s : S} {k : S → Option (AExit × S)} {a b : IR}
theorem thenC_normal : thenC (some (.normal, s)) k = k s := id rfl
theorem thenC_ret : thenC (some (.ret, s)) k = some (.ret, s) := id rfl
theorem thenC_exit {i : Nat} : thenC (some (.exit i, s)) k = some (.exit i, s) := id rfl
theorem blkC_normal {id : Nat} : blkC id (some (.normal, s)) = some (.normal, s) := _root_.id rfl
theorem blkC_ret {id : Nat} : blkC id (some (.ret, s)) = some (.ret, s) := _root_.id rfl
theorem blkC_here {i : Nat} : blkC i (some (.exit i, s)) = some (.normal, s) := by simp [blkC]
theorem blkC_on {id i : Nat} (h : (i == id) = false) : blkC id (some (.exit i, s)) = some (.exit i, s) := by
  have : i ≠ id := by simpa using h
  simp [blkC, this]
theorem regC_some : regC (some s) = some (.normal, s) := id rfl
theorem envC_some {e : List AV} : envC (some (e, s)) = some s := id rfl
theorem outC_some {out : List Nat} {x : AExit} : outC cx out (some (x, s)) = some (x, head cx out s) := id rfl
theorem ac_skip : aCode lo cx .skip s = some (.normal, s) := id rfl
theorem ac_ret : aCode lo cx .ret s = some (.ret, s) := id rfl
theorem ac_exit {i : Nat} : aCode lo cx (.exit i) s = some (.exit i, s) := id rfl
theorem ac_seq : aCode lo cx (.seq a b) s = thenC (aCode lo cx a s) (aCode lo cx b) := id rfl
theorem ac_region {ops : List ROp} : aCode lo cx (.region ops none) s = regC (envC (aOps lo ops [] s)) := id rfl
theorem ac_block {id : Nat} : aCode lo cx (.block id b) s = blkC id (aCode lo cx b s) := _root_.id rfl
theorem ac_loop {kp out : List Nat} : aCode lo cx (.loop kp out b) s = outC cx out (loopC (aCode lo cx b) (head cx kp) s) := id rfl
theorem ac_true {i : Nat} {vars : List AV} {st : List AO} {ext : Option Ext} (h : vars.getD i .junk = .imm (.bool true)) : aCode lo cx (.cond (.var i) a b) ⟨vars, st, ext⟩ = aCode lo cx a ⟨vars, st, ext⟩ := by simp only [aCode, opnd, h]
theorem ac_false {i : Nat} {vars : List AV} {st : List AO} {ext : Option Ext} (h : vars.getD i .junk = .imm (.bool false)) : aCode lo cx (.cond (.var i) a b) ⟨vars, st, ext⟩ = aCode lo cx b ⟨vars, st, ext⟩ := by simp only [aCode, opnd, h]
theorem ac_scope {n : Nat} : aCode lo { nb := n, rd := false } (.scope b) s = aCode lo { nb := n, rd := false } b s := by simp [aCode]
def nxC (lo : Lower) (rest : List ROp) (w : Option Nat) (env : List AV) (r : Option (AV × S)) : Option (List AV × S) :=
  match r with
  | some (v, s) => aOps lo rest (env ++ [v]) { s with vars := setW s.vars w v }
  | none => none
variable {env vars : List AV} {st news : List AO} {ext : Option Ext} {rest : List ROp} {w : Option Nat} {op : IOp} {nid : Nat} {v : AV}
theorem setW_none : setW vars none v = vars := id rfl
theorem setW_some {i : Nat} : setW vars (some i) v = vars.set i v := id rfl
theorem ao_nil : aOps lo [] env s = some (env, s) := id rfl
theorem nx_some : nxC lo rest w env (some (v, ⟨vars, st, ext⟩)) = aOps lo rest (env ++ [v]) ⟨setW vars w v, st, ext⟩ := id rfl
theorem ao_op : aOps lo (⟨w, none, op⟩ :: rest) env ⟨vars, st, ext⟩ = nxC lo rest w env (aOp lo vars env ⟨vars, st, ext⟩ op) := by
  simp only [aOps, wantG, nxC]
  cases aOp lo vars env ⟨vars, st, ext⟩ op <;> rfl
theorem ao_do {j : Nat} {b : Bool} (h : env.getD j .junk = .imm (.bool b)) : aOps lo (⟨w, some (j, b), op⟩ :: rest) env ⟨vars, st, ext⟩ = nxC lo rest w env (aOp lo vars env ⟨vars, st, ext⟩ op) := by
  simp only [aOps, wantG, h, nxC]
  cases b <;> simp only [] <;> cases aOp lo vars env ⟨vars, st, ext⟩ op <;> rfl
theorem ao_tf {j : Nat} (h : env.getD j .junk = .imm (.bool true)) : aOps lo (⟨w, some (j, false), op⟩ :: rest) env ⟨vars, st, ext⟩ = aOps lo rest (env ++ [.imm (.tup [])]) ⟨setW vars w (.imm (.tup [])), st, ext⟩ := by
  simp only [aOps, wantG, h]
theorem ao_ft {j : Nat} (h : env.getD j .junk = .imm (.bool false)) : aOps lo (⟨w, some (j, true), op⟩ :: rest) env ⟨vars, st, ext⟩ = aOps lo rest (env ++ [.imm (.tup [])]) ⟨setW vars w (.imm (.tup [])), st, ext⟩ := by
  simp only [aOps, wantG, h]
theorem ao_no {j : Nat} {b : Bool} (h : env.getD j .junk = .imm (.tup [])) : aOps lo (⟨w, some (j, b), op⟩ :: rest) env ⟨vars, st, ext⟩ = aOps lo rest (env ++ [.imm (.tup [])]) ⟨setW vars w (.imm (.tup [])), st, ext⟩ := by
  simp only [aOps, wantG, h]
def qC (s : S) (r : Option (AV × List AO)) : Option (AV × S) := match r with | some (v, news) => some (v, { s with st := s.st ++ news }) | none => none
theorem qC_nil : qC ⟨vars, st, ext⟩ (some (v, [])) = some (v, ⟨vars, st, ext⟩) := by simp [qC]
theorem qC_new : qC ⟨vars, st, ext⟩ (some (v, news)) = some (v, ⟨vars, st ++ news, ext⟩) := id rfl
def vlC (r : Option AV) : Option (AV × List AO) := match r with | some v => some (v, []) | none => none
theorem vl_some : vlC (some v) = some (v, []) := id rfl
theorem vl_map {r : Option AV} : r.map (·, ([] : List AO)) = vlC r := by cases r <;> rfl
theorem op_mv {x : Opnd} : aOp lo vars env ⟨vars, st, ext⟩ (.mv x) = some (opnd vars env x, ⟨vars, st, ext⟩) := by simp [aOp, aQ]
theorem op_pick {c a b : Opnd} : aOp lo vars env ⟨vars, st, ext⟩ (.pick c a b) = qC ⟨vars, st, ext⟩ (aQ lo vars env st st.length (.pick c a b)) := id rfl
theorem op_alloc {z : List D} : aOp lo vars env ⟨vars, st, ext⟩ (.alloc z) = some (.ptr st.length 0, ⟨vars, st ++ [.box (z.map .imm)], ext⟩) := id rfl
theorem op_box {x : Opnd} : aOp lo vars env ⟨vars, st, ext⟩ (.box x) = qC ⟨vars, st, ext⟩ (aQ lo vars env st st.length (.box x)) := id rfl
theorem op_build {z : List D} {ps : List (Nat × Nat × Opnd)} : aOp lo vars env ⟨vars, st, ext⟩ (.build z ps) = qC ⟨vars, st, ext⟩ (aQ lo vars env st st.length (.build z ps)) := id rfl
theorem op_load {g : Bool} {n : Nat} {x : Opnd} : aOp lo vars env ⟨vars, st, ext⟩ (.load g n x) = qC ⟨vars, st, ext⟩ (aQ lo vars env st st.length (.load g n x)) := id rfl
theorem op_nilck {x : Opnd} : aOp lo vars env ⟨vars, st, ext⟩ (.nilck x) = qC ⟨vars, st, ext⟩ (aQ lo vars env st st.length (.nilck x)) := id rfl
theorem op_bin {o : BinOp} {x y : Opnd} : aOp lo vars env ⟨vars, st, ext⟩ (.bin o x y) = qC ⟨vars, st, ext⟩ (aQ lo vars env st st.length (.bin o x y)) := id rfl
theorem op_eqs {g : Bool} {t : ETy} {x y : Opnd} : aOp lo vars env ⟨vars, st, ext⟩ (.eqs g t x y) = qC ⟨vars, st, ext⟩ (aQ lo vars env st st.length (.eqs g t x y)) := id rfl
theorem op_un {o : UnOp} {x : Opnd} : aOp lo vars env ⟨vars, st, ext⟩ (.un o x) = qC ⟨vars, st, ext⟩ (aQ lo vars env st st.length (.un o x)) := id rfl
theorem op_conv {k : IntKind} {x : Opnd} : aOp lo vars env ⟨vars, st, ext⟩ (.conv k x) = qC ⟨vars, st, ext⟩ (aQ lo vars env st st.length (.conv k x)) := id rfl
theorem op_same {x : Opnd} : aOp lo vars env ⟨vars, st, ext⟩ (.same x) = qC ⟨vars, st, ext⟩ (aQ lo vars env st st.length (.same x)) := id rfl
theorem op_mkfn {f : FuncId} {x y : List Opnd} : aOp lo vars env ⟨vars, st, ext⟩ (.mkfn f x y) = qC ⟨vars, st, ext⟩ (aQ lo vars env st st.length (.mkfn f x y)) := id rfl
theorem op_mkmap : aOp lo vars env ⟨vars, st, ext⟩ .mkmap = qC ⟨vars, st, ext⟩ (aQ lo vars env st st.length .mkmap) := id rfl
theorem op_lookup {z : D} {x y : Opnd} : aOp lo vars env ⟨vars, st, ext⟩ (.lookup z x y) = qC ⟨vars, st, ext⟩ (aQ lo vars env st st.length (.lookup z x y)) := id rfl
theorem op_mkslice {sz bytes : Nat} {z : List D} {x y : Opnd} : aOp lo vars env ⟨vars, st, ext⟩ (.mkslice sz bytes z x y) = qC ⟨vars, st, ext⟩ (aQ lo vars env st st.length (.mkslice sz bytes z x y)) := id rfl
theorem op_slice {arr : Option Nat} {sz : Nat} {x : Opnd} {l h m : Option Opnd} : aOp lo vars env ⟨vars, st, ext⟩ (.slice arr sz x l h m) = qC ⟨vars, st, ext⟩ (aQ lo vars env st st.length (.slice arr sz x l h m)) := id rfl
theorem op_faddr {o : Nat} {x : Opnd} : aOp lo vars env ⟨vars, st, ext⟩ (.faddr o x) = qC ⟨vars, st, ext⟩ (aQ lo vars env st st.length (.faddr o x)) := id rfl
theorem op_field {g : Bool} {o n : Nat} {x : Opnd} : aOp lo vars env ⟨vars, st, ext⟩ (.field g o n x) = qC ⟨vars, st, ext⟩ (aQ lo vars env st st.length (.field g o n x)) := id rfl
theorem op_iaddr {arr : Option Nat} {sz : Nat} {x i : Opnd} : aOp lo vars env ⟨vars, st, ext⟩ (.iaddr arr sz x i) = qC ⟨vars, st, ext⟩ (aQ lo vars env st st.length (.iaddr arr sz x i)) := id rfl
theorem op_index {n sz : Nat} {g : Bool} {x i : Opnd} : aOp lo vars env ⟨vars, st, ext⟩ (.index n sz g x i) = qC ⟨vars, st, ext⟩ (aQ lo vars env st st.length (.index n sz g x i)) := id rfl
theorem op_extract {x : Opnd} {i : Nat} : aOp lo vars env ⟨vars, st, ext⟩ (.extract x i) = qC ⟨vars, st, ext⟩ (aQ lo vars env st st.length (.extract x i)) := id rfl
theorem op_len {k : LK} {x : Opnd} : aOp lo vars env ⟨vars, st, ext⟩ (.len k x) = qC ⟨vars, st, ext⟩ (aQ lo vars env st st.length (.len k x)) := id rfl
theorem op_mnmx {g : Bool} {x y : Opnd} : aOp lo vars env ⟨vars, st, ext⟩ (.mnmx g x y) = qC ⟨vars, st, ext⟩ (aQ lo vars env st st.length (.mnmx g x y)) := id rfl
theorem q_mv {x : Opnd} : aQ lo vars env st nid (.mv x) = some (opnd vars env x, []) := id rfl
def pickC (c x y : AV) : Option (AV × List AO) := match c with | .imm (.bool t) => some ((match t with | true => x | false => y), []) | _ => none
theorem pick_t {x y : AV} : pickC (.imm (.bool true)) x y = some (x, []) := id rfl
theorem pick_f {x y : AV} : pickC (.imm (.bool false)) x y = some (y, []) := id rfl
theorem q_pick {c x y : Opnd} : aQ lo vars env st nid (.pick c x y) = pickC (opnd vars env c) (opnd vars env x) (opnd vars env y) := id rfl
theorem q_alloc {z : List D} : aQ lo vars env st nid (.alloc z) = some (.ptr nid 0, [.box (z.map .imm)]) := id rfl
def boxC (nid : Nat) (cs : List AV) (ok : Bool) : Option (AV × List AO) := match ok with | true => some (.ptr nid 0, [.box cs]) | false => none
theorem box_t {cs : List AV} : boxC nid cs true = some (.ptr nid 0, [.box cs]) := id rfl
theorem q_box {x : Opnd} : aQ lo vars env st nid (.box x) = boxC nid (cellsOf (opnd vars env x)) ((cellsOf (opnd vars env x)).all single) := by
  simp only [aQ, boxC]
  cases (cellsOf (opnd vars env x)).all single <;> rfl
def bldC (r : Option (List AV)) : Option (AV × List AO) := match r with | some cs => some (mkAgg cs, []) | none => none
theorem bld_some {cs : List AV} : bldC (some cs) = some (mkAgg cs, []) := id rfl
theorem q_build {z : List D} {ps : List (Nat × Nat × Opnd)} : aQ lo vars env st nid (.build z ps) = bldC (fillA (z.map .imm) (ps.map fun p => (p.1, p.2.1, opnd vars env p.2.2))) := id rfl
theorem q_load {g : Bool} {n : Nat} {x : Opnd} : aQ lo vars env st nid (.load g n x) = vlC (aLoad st g n (opnd vars env x)) := vl_map
def nckC (v : AV) : Option (AV × List AO) := match v with | .ptr id off => some (.ptr id off, []) | .imm (.ptr cs) => some (.imm (.ptr cs), []) | _ => none
theorem nck_ptr {id off : Nat} : nckC (.ptr id off) = some (.ptr id off, []) := _root_.id rfl
theorem nck_imm {cs : List D} : nckC (.imm (.ptr cs)) = some (.imm (.ptr cs), []) := id rfl
theorem q_nilck {x : Opnd} : aQ lo vars env st nid (.nilck x) = nckC (opnd vars env x) := id rfl
theorem q_bin {o : BinOp} {x y : Opnd} : aQ lo vars env st nid (.bin o x y) = vlC (aBin o (opnd vars env x) (opnd vars env y)) := vl_map
def eqC (g : Bool) (r : Option Bool) : Option (AV × List AO) := match r with | some b => some (.imm (.bool (match g with | true => !b | false => b)), []) | none => none
theorem eq_f {b : Bool} : eqC false (some b) = some (.imm (.bool b), []) := id rfl
theorem eq_t {b : Bool} : eqC true (some b) = some (.imm (.bool (!b)), []) := id rfl
theorem q_eqs {g : Bool} {t : ETy} {x y : Opnd} : aQ lo vars env st nid (.eqs g t x y) = eqC g (aEq t (opnd vars env x) (opnd vars env y)) := by
  simp only [aQ, eqC]
  cases aEq t (opnd vars env x) (opnd vars env y) <;> cases g <;> rfl
theorem q_un {o : UnOp} {x : Opnd} : aQ lo vars env st nid (.un o x) = vlC (aUn o (opnd vars env x)) := vl_map
def cvC (k : IntKind) (v : AV) : Option (AV × List AO) := match v with | .imm (.int _ n) => some (.imm (.int k (wrp k n)), []) | _ => none
theorem cv_int {k k' : IntKind} {n : Int} : cvC k (.imm (.int k' n)) = some (.imm (.int k (wrp k n)), []) := id rfl
theorem q_conv {k : IntKind} {x : Opnd} : aQ lo vars env st nid (.conv k x) = cvC k (opnd vars env x) := id rfl
theorem q_same {x : Opnd} : aQ lo vars env st nid (.same x) = some (opnd vars env x, []) := id rfl
theorem q_mkfn {f : FuncId} {x y : List Opnd} : aQ lo vars env st nid (.mkfn f x y) = some (mkFn f (opnds vars env x) (opnds vars env y), []) := id rfl
theorem q_mkmap : aQ lo vars env st nid .mkmap = some (.map nid, [.imap []]) := id rfl
def lkC (st : List AO) (z : D) (m : AV) (k : Option Int) : Option (AV × List AO) := match m, k with
    | .map id, some k => match st[id]? with | some (.imap es) => some (.imm ((lookI es k).getD z), []) | _ => none
    | _, _ => none
theorem q_lookup {z : D} {m k : Opnd} : aQ lo vars env st nid (.lookup z m k) = lkC st z (opnd vars env m) (keyI (opnd vars env k)) := id rfl
def mkC (nid sz bytes : Nat) (z : List D) (l c : Option Int) : Option (AV × List AO) := match l, c with
    | some l, some c => if 0 ≤ l ∧ l ≤ c ∧ bytes * c ≤ room ∧ c ≤ room then some (.ref nid sz 0 l.toNat, [.arr sz (List.replicate l.toNat z)]) else none
    | _, _ => none
theorem mk_ok {sz bytes : Nat} {z : List D} {l : Int} (h0 : 0 ≤ l) (h1 : bytes * l ≤ 70368744177664) (h2 : l ≤ 70368744177664) : mkC nid sz bytes z (some l) (some l) = some (.ref nid sz 0 l.toNat, [.arr sz (List.replicate l.toNat z)]) := by
  simp only [mkC, room]
  exact if_pos ⟨h0, Int.le_refl _, h1, h2⟩
theorem mk_cap {sz bytes : Nat} {z : List D} {c : Int} (h0 : 0 ≤ c) (h1 : bytes * c ≤ 70368744177664) (h2 : c ≤ 70368744177664) : mkC nid sz bytes z (some 0) (some c) = some (.ref nid sz 0 0, [.arr sz []]) := by
  simp only [mkC, room]
  exact if_pos ⟨Int.le_refl _, h0, h1, h2⟩
theorem q_mkslice {sz bytes : Nat} {z : List D} {l c : Opnd} : aQ lo vars env st nid (.mkslice sz bytes z l c) = mkC nid sz bytes z (getI (opnd vars env l)) (getI (opnd vars env c)) := id rfl
def bdC (v : Option AV) : Option (Option Nat) := match v with
  | none => some none
  | some v => match getI v with | some n => if 0 ≤ n then some (some n.toNat) else none | none => none
theorem bd_none : bdC none = some none := id rfl
theorem bd_int {k : IntKind} {n : Int} (h : 0 ≤ n) : bdC (some (.imm (.int k n))) = some (some n.toNat) := by simp [bdC, getI, h]
def slC (st : List AO) (arr : Option Nat) (sz : Nat) (v : AV) (lo hi mx : Option (Option Nat)) : Option AV := match lo, hi, mx with
    | some l, some h, some m => aSlice st arr sz v l h m
    | _, _, _ => none
theorem sl_some {arr : Option Nat} {sz : Nat} {l h m : Option Nat} : slC st arr sz v (some l) (some h) (some m) = aSlice st arr sz v l h m := id rfl
theorem q_slice {arr : Option Nat} {sz : Nat} {x : Opnd} {l h m : Option Opnd} : aQ lo vars env st nid (.slice arr sz x l h m) = vlC (slC st arr sz (opnd vars env x) (bdC (l.map (opnd vars env))) (bdC (h.map (opnd vars env))) (bdC (m.map (opnd vars env)))) := by
  have e : aQ lo vars env st nid (.slice arr sz x l h m) = (match bdC (l.map (opnd vars env)), bdC (h.map (opnd vars env)), bdC (m.map (opnd vars env)) with
      | some l, some h, some m => (aSlice st arr sz (opnd vars env x) l h m).map (·, [])
      | _, _, _ => none) := by
    cases l <;> cases h <;> cases m <;> rfl
  rw [e]
  simp only [slC]
  cases bdC (l.map (opnd vars env)) <;> cases bdC (h.map (opnd vars env)) <;> cases bdC (m.map (opnd vars env)) <;> first | rfl | exact vl_map
def faC (o : Nat) (v : AV) : Option (AV × List AO) := match v with | .ptr id a => some (.ptr id (a + o), []) | .imm (.ptr cs) => some (.imm (.ptr (cs.drop o)), []) | _ => none
theorem fa_ptr {o id a : Nat} : faC o (.ptr id a) = some (.ptr id (a + o), []) := _root_.id rfl
theorem fa_imm {o : Nat} {cs : List D} : faC o (.imm (.ptr cs)) = some (.imm (.ptr (cs.drop o)), []) := id rfl
theorem q_faddr {o : Nat} {x : Opnd} : aQ lo vars env st nid (.faddr o x) = faC o (opnd vars env x) := id rfl
def fdC (g : Bool) (o n : Nat) (r : Option (List AV)) : Option (AV × List AO) := match r with
    | some cs => if o + n ≤ cs.length then (if g then some (mkAgg ((cs.drop o).take n), []) else if n = 1 then (cs[o]?).map (·, []) else none) else none
    | none => none
theorem fd_agg {o n : Nat} {cs : List AV} (h : o + n ≤ cs.length) : fdC true o n (some cs) = some (mkAgg ((cs.drop o).take n), []) := by simp [fdC, h]
theorem fd_one {o : Nat} {cs : List AV} : fdC false o 1 (some cs) = vlC cs[o]? := by
  simp only [fdC, vlC]
  by_cases h : o + 1 ≤ cs.length
  · simp [h, List.getElem?_eq_getElem (show o < cs.length by omega)]
  · simp [h, List.getElem?_eq_none (show cs.length ≤ o by omega)]
theorem q_field {g : Bool} {o n : Nat} {x : Opnd} : aQ lo vars env st nid (.field g o n x) = fdC g o n (aggOf (opnd vars env x)) := id rfl
def iaC (arr : Option Nat) (sz : Nat) (v : AV) (i : Option Int) : Option AV := match i with | some i => aIaddr arr sz v i | none => none
theorem ia_some {arr : Option Nat} {sz : Nat} {i : Int} : iaC arr sz v (some i) = aIaddr arr sz v i := id rfl
theorem q_iaddr {arr : Option Nat} {sz : Nat} {x i : Opnd} : aQ lo vars env st nid (.iaddr arr sz x i) = vlC (iaC arr sz (opnd vars env x) (getI (opnd vars env i))) := by
  simp only [aQ, iaC]
  cases getI (opnd vars env i) <;> first | rfl | exact vl_map
def ixC (n sz : Nat) (g : Bool) (r : Option (List AV)) (i : Option Int) : Option (AV × List AO) := match i with
    | some i => match r with
      | some cs => if 0 ≤ i ∧ i < n ∧ (i.toNat + 1) * sz ≤ cs.length then
        (if g then some (mkAgg ((cs.drop (i.toNat * sz)).take sz), []) else if sz = 1 then (cs[i.toNat]?).map (·, []) else none) else none
      | none => none
    | none => none
theorem q_index {n sz : Nat} {g : Bool} {x i : Opnd} : aQ lo vars env st nid (.index n sz g x i) = ixC n sz g (aggOf (opnd vars env x)) (getI (opnd vars env i)) := id rfl
def iyC (n sz : Nat) (g : Bool) (cs : List AV) (i : Int) (ok : Bool) : Option (AV × List AO) := match ok with
  | true => (match g with | true => some (mkAgg ((cs.drop (i.toNat * sz)).take sz), []) | false => (match decide (sz = 1) with | true => vlC cs[i.toNat]? | false => none))
  | false => none
theorem ix_some {n sz : Nat} {g : Bool} {cs : List AV} {i : Int} : ixC n sz g (some cs) (some i) = iyC n sz g cs i (decide (0 ≤ i) && decide (i < n) && decide ((i.toNat + 1) * sz ≤ cs.length)) := by
  simp only [ixC, iyC]
  by_cases h1 : 0 ≤ i <;> by_cases h2 : i < n <;> by_cases h3 : (i.toNat + 1) * sz ≤ cs.length <;> simp only [h1, h2, h3, and_self, and_true, true_and, and_false, false_and, if_true, if_false, decide_true, decide_false, Bool.and_true, Bool.true_and, Bool.and_false, Bool.false_and]
  cases g
  · by_cases h4 : sz = 1
    · subst h4; simp [vlC]; cases cs[i.toNat]? <;> rfl
    · simp [h4]
  · rfl
theorem iy_agg {n sz : Nat} {cs : List AV} {i : Int} : iyC n sz true cs i true = some (mkAgg ((cs.drop (i.toNat * sz)).take sz), []) := id rfl
theorem iy_one {n : Nat} {cs : List AV} {i : Int} : iyC n 1 false cs i true = vlC cs[i.toNat]? := id rfl
def exC (v : AV) (i : Nat) : Option AV := match v with
    | .imm (.tup ds) => (ds[i]?).map .imm
    | .tup vs => vs[i]?
    | _ => none
theorem ex_imm {ds : List D} {i : Nat} : exC (.imm (.tup ds)) i = (ds[i]?).map .imm := id rfl
theorem ex_tup {vs : List AV} {i : Nat} : exC (.tup vs) i = vs[i]? := id rfl
theorem q_extract {x : Opnd} {i : Nat} : aQ lo vars env st nid (.extract x i) = vlC (exC (opnd vars env x) i) := by
  simp only [aQ, exC]
  cases opnd vars env x with
  | imm d =>
    cases d with
    | tup ds => cases h : ds[i]? <;> simp [vlC, h]
    | _ => rfl
  | tup vs => cases h : vs[i]? <;> simp [vlC, h]
  | _ => rfl
def lnC (r : Option Nat) : Option (AV × List AO) := match r with | some n => some (.imm (.int .i64 (n : Int)), []) | none => none
theorem ln_some {n : Nat} : lnC (some n) = some (.imm (.int .i64 (n : Int)), []) := id rfl
theorem q_len {k : LK} {x : Opnd} : aQ lo vars env st nid (.len k x) = lnC (aLen k (opnd vars env x) st) := id rfl
def mxC (g : Bool) (x y : AV) : Option (AV × List AO) := match x, y with
    | .imm (.int k a), .imm (.int _ b) => some (.imm (.int k (if g then (if b < a then b else a) else (if a < b then b else a))), [])
    | _, _ => none
theorem mn_int {k k' : IntKind} {a b : Int} : mxC true (.imm (.int k a)) (.imm (.int k' b)) = some (.imm (.int k (min a b)), []) := by
  simp only [mxC, if_true, Option.some.injEq, Prod.mk.injEq, AV.imm.injEq, D.int.injEq, and_true, true_and]
  omega
theorem mx_int {k k' : IntKind} {a b : Int} : mxC false (.imm (.int k a)) (.imm (.int k' b)) = some (.imm (.int k (max a b)), []) := by
  simp only [mxC, Bool.false_eq_true, if_false, Option.some.injEq, Prod.mk.injEq, AV.imm.injEq, D.int.injEq, and_true, true_and]
  omega
theorem q_mnmx {g : Bool} {x y : Opnd} : aQ lo vars env st nid (.mnmx g x y) = mxC g (opnd vars env x) (opnd vars env y) := id rfl
theorem bin_add {k : IntKind} {a b : Int} : aBin .add (.imm (.int k a)) (.imm (.int k b)) = some (.imm (.int k (wrp k (a + b)))) := by simp [aBin, binI]
theorem bin_sub {k : IntKind} {a b : Int} : aBin .sub (.imm (.int k a)) (.imm (.int k b)) = some (.imm (.int k (wrp k (a - b)))) := by simp [aBin, binI]
theorem bin_mul {k : IntKind} {a b : Int} : aBin .mul (.imm (.int k a)) (.imm (.int k b)) = some (.imm (.int k (wrp k (a * b)))) := by simp [aBin, binI]
theorem bin_quo {k : IntKind} {a b : Int} (h : b ≠ 0) : aBin .quo (.imm (.int k a)) (.imm (.int k b)) = some (.imm (.int k (wrp k (a.tdiv b)))) := by simp [aBin, binI, h]
theorem bin_rem {k : IntKind} {a b : Int} (h : b ≠ 0) : aBin .rem (.imm (.int k a)) (.imm (.int k b)) = some (.imm (.int k (a.tmod b))) := by simp [aBin, binI, h]
theorem bin_eql {k : IntKind} {a b : Int} : aBin .eql (.imm (.int k a)) (.imm (.int k b)) = some (.imm (.bool (decide (a = b)))) := by simp [aBin, binI]; rfl
theorem bin_neq {k : IntKind} {a b : Int} : aBin .neq (.imm (.int k a)) (.imm (.int k b)) = some (.imm (.bool (decide (a ≠ b)))) := by simp [aBin, binI, bne]; rfl
theorem bin_lss {k : IntKind} {a b : Int} : aBin .lss (.imm (.int k a)) (.imm (.int k b)) = some (.imm (.bool (decide (a < b)))) := by simp [aBin, binI]
theorem bin_leq {k : IntKind} {a b : Int} : aBin .leq (.imm (.int k a)) (.imm (.int k b)) = some (.imm (.bool (decide (a ≤ b)))) := by simp [aBin, binI]
theorem bin_gtr {k : IntKind} {a b : Int} : aBin .gtr (.imm (.int k a)) (.imm (.int k b)) = some (.imm (.bool (decide (b < a)))) := by simp [aBin, binI]
theorem bin_geq {k : IntKind} {a b : Int} : aBin .geq (.imm (.int k a)) (.imm (.int k b)) = some (.imm (.bool (decide (b ≤ a)))) := by simp [aBin, binI]
theorem bin_shr {k k' : IntKind} {a b : Int} (h : ¬ b < 0) : aBin .shr (.imm (.int k a)) (.imm (.int k' b)) = some (.imm (.int k (a.fdiv (2 ^ (min b.toNat k.bits))))) := by simp [aBin, shiftI, h]
theorem un_not {b : Bool} : aUn .not (.imm (.bool b)) = some (.imm (.bool (!b))) := id rfl
theorem un_neg {k : IntKind} {n : Int} : aUn .neg (.imm (.int k n)) = some (.imm (.int k (wrp k (0 - n)))) := id rfl
theorem eq_bool {a b : Bool} : aEq .bool (.imm (.bool a)) (.imm (.bool b)) = some (a == b) := id rfl
theorem wrp_ok {n : Int} (h : -9223372036854775808 ≤ n ∧ n ≤ 9223372036854775807) : wrp .i64 n = n := by simp [wrp, h]
theorem getI_int {k : IntKind} {n : Int} : getI (.imm (.int k n)) = some n := id rfl
theorem keyI_int {n : Int} : keyI (.imm (.int .i64 n)) = some n := id rfl
end
end Go.Vm

/- Evaluating: memory, calls, what is left behind. -/
namespace Go.Vm
open Go
def slD (b : Bool) (sz : Nat) (es : List (List D)) : D := match b, es with | true, [] => .nil | _, es => .sl sz es
section
variable {lo : Lower} {cx : Cx} {s : S} {env vars vs : List AV} {st news : List AO} {ext : Option Ext} {nid id sz n m off l h i : Nat} {v : AV} {b : Bool} {es old : List (List D)} {e ds : List D} {d : D} {cs : List AV} {r : List AV}
theorem len_sl : aLen .sl (.imm (.sl sz es)) st = some es.length := _root_.id rfl
theorem len_nil : aLen .sl (.imm .nil) st = some 0 := _root_.id rfl
theorem len_slD : aLen .sl (.imm (slD b sz es)) st = some es.length := by cases b <;> cases es <;> rfl
theorem len_ref {lw : Nat} : aLen .sl (.ref id sz lw n) st = some n := _root_.id rfl
theorem len_e0 : aLen .sl (.e0 sz) st = some 0 := _root_.id rfl
theorem len_str {x : ByteArray} : aLen .str (.imm (.str x)) st = some x.size := _root_.id rfl
def mlC (o : Option AO) : Option Nat := match o with | some (.imap es) => some es.length | _ => none
theorem len_map : aLen .mp (.map id) st = mlC st[id]? := _root_.id rfl
theorem ml_imap {es : List (Int × D)} : mlC (some (.imap es)) = some es.length := _root_.id rfl
def iaP (o : Option (List D)) : Option AV := match o with | some e => some (.imm (.ptr e)) | none => none
theorem iaP_some : iaP (some e) = some (.imm (.ptr e)) := _root_.id rfl
theorem ia_sl {i : Int} (h : 0 ≤ i) : aIaddr none sz (.imm (.sl sz es)) i = iaP es[i.toNat]? := by
  simp only [aIaddr, h, and_self, if_true]
  cases es[i.toNat]? <;> rfl
theorem ia_slN {i : Nat} : aIaddr none sz (.imm (.sl sz es)) (i : Int) = iaP es[i]? := ia_sl (by omega)
theorem ia_slD {i : Int} (h : 0 ≤ i) : aIaddr none sz (.imm (slD b sz es)) i = iaP es[i.toNat]? := by
  cases b
  · exact ia_sl h
  · cases es with
    | nil => rfl
    | cons x es => exact ia_sl h
theorem ia_slDN {i : Nat} : aIaddr none sz (.imm (slD b sz es)) (i : Int) = iaP es[i]? := ia_slD (by omega)
theorem ia_ref {i : Int} {lw : Nat} (h : 0 ≤ i) (h2 : i < n) : aIaddr none sz (.ref id sz lw n) i = some (.ptr id ((lw + i.toNat) * sz)) := by simp [aIaddr, h, h2]
theorem ia_arr {i : Int} (h : 0 ≤ i) (h2 : i < n) : aIaddr (some n) sz (.ptr id off) i = some (.ptr id (off + i.toNat * sz)) := by simp [aIaddr, h, h2]
theorem ia_arrI {i : Int} (h : 0 ≤ i) (h2 : i < n) : aIaddr (some n) sz (.imm (.ptr ds)) i = some (.imm (.ptr (ds.drop (i.toNat * sz)))) := by simp [aIaddr, h, h2]
theorem ld_immT (h : n ≤ ds.length) : aLoad st true n (.imm (.ptr ds)) = some (.imm (.agg (ds.take n))) := by simp [aLoad, h]
theorem ld_immF : aLoad st false 1 (.imm (.ptr (d :: ds))) = some (.imm d) := by simp [aLoad]
def ldC (g : Bool) (n off : Nat) (o : Option AO) : Option AV := match o with
  | some (.box cs) => if off + n ≤ cs.length then (if g then some (mkAgg ((cs.drop off).take n)) else (if n = 1 then cs[off]? else none)) else none
  | some (.fbox ds) => if off + n ≤ (ds.map AV.imm).length then (if g then some (mkAgg (((ds.map .imm).drop off).take n)) else (if n = 1 then (ds.map AV.imm)[off]? else none)) else none
  | some (.arr sz es) => match es[off / sz]? with
    | some e => if off % sz + n ≤ e.length then (if g then some (.imm (.agg ((e.drop (off % sz)).take n))) else (if n = 1 then (e[off % sz]?).map .imm else none)) else none
    | none => none
  | some (.farr sz es) => match es[off / sz]? with
    | some e => if off % sz + n ≤ e.length then (if g then some (.imm (.agg ((e.drop (off % sz)).take n))) else (if n = 1 then (e[off % sz]?).map .imm else none)) else none
    | none => none
  | _ => none
theorem ld_ptr {g : Bool} : aLoad st g n (.ptr id off) = ldC g n off st[id]? := by
  simp only [aLoad, rdBox, rdArr, ldC]
  cases st[id]? with
  | none => rfl
  | some o => cases o <;> rfl
theorem dsOf_map' : ∀ l : List D, dsOf (l.map .imm) = some l
  | [] => rfl
  | x :: l => by simp [dsOf, dsOf_map' l]
theorem ldC_boxF : ldC false 1 off (some (.box cs)) = cs[off]? := by
  by_cases h : off + 1 ≤ cs.length
  · simp [ldC, h]
  · simp only [ldC, h, if_false]; rw [List.getElem?_eq_none (by omega)]
theorem ldC_boxT (h : off + n ≤ cs.length) : ldC true n off (some (.box cs)) = some (mkAgg ((cs.drop off).take n)) := by simp [ldC, h]
theorem ldC_fboxF : ldC false 1 off (some (.fbox ds)) = (ds[off]?).map .imm := by
  by_cases h : off + 1 ≤ ds.length
  · simp [ldC, h]
  · simp only [ldC, List.length_map, h, if_false]; rw [List.getElem?_eq_none (by omega)]; rfl
def elC (j : Nat) (o : Option (List D)) : Option AV := match o with | some e => (e[j]?).map .imm | none => none
theorem el_some {j : Nat} : elC j (some e) = (e[j]?).map .imm := _root_.id rfl
def emC (j n : Nat) (o : Option (List D)) : Option AV := match o with | some e => if j + n ≤ e.length then some (.imm (.agg ((e.drop j).take n))) else none | none => none
theorem em_some {j : Nat} (h : j + n ≤ e.length) : emC j n (some e) = some (.imm (.agg ((e.drop j).take n))) := by simp [emC, h]
theorem ldC_arrF : ldC false 1 off (some (.arr sz es)) = elC (off % sz) es[off / sz]? := by
  simp only [ldC, elC]
  cases es[off / sz]? with
  | none => rfl
  | some e =>
    by_cases h : off % sz + 1 ≤ e.length
    · simp [h]
    · simp only [h, if_false]; rw [List.getElem?_eq_none (by omega)]; rfl
theorem ldC_farrF : ldC false 1 off (some (.farr sz es)) = elC (off % sz) es[off / sz]? := ldC_arrF
theorem ldC_arrT : ldC true n off (some (.arr sz es)) = emC (off % sz) n es[off / sz]? := by
  simp only [ldC, emC]
  cases es[off / sz]? <;> rfl
theorem ldC_farrT : ldC true n off (some (.farr sz es)) = emC (off % sz) n es[off / sz]? := ldC_arrT
theorem ldC_fboxT (h : off + n ≤ ds.length) : ldC true n off (some (.fbox ds)) = some (.imm (.agg ((ds.drop off).take n))) := by
  have h' : off + n ≤ (ds.map AV.imm).length := by simpa using h
  simp only [ldC, if_pos h', if_true]
  rw [← List.map_drop, ← List.map_take, mkAgg, dsOf_map']
def maC (vs : List AV) (r : Option (List D)) : AV := match r with | some ds => .imm (.agg ds) | none => .agg vs
theorem mkAgg_eq : mkAgg vs = maC vs (dsOf vs) := _root_.id rfl
theorem ma_some : maC vs (some ds) = .imm (.agg ds) := _root_.id rfl
theorem ma_none : maC vs none = .agg vs := _root_.id rfl
def mtC (vs : List AV) (r : Option (List D)) : AV := match r with | some ds => .imm (.tup ds) | none => .tup vs
theorem mkTup_eq : mkTup vs = mtC vs (dsOf vs) := _root_.id rfl
theorem mt_some : mtC vs (some ds) = .imm (.tup ds) := _root_.id rfl
theorem mt_none : mtC vs none = .tup vs := _root_.id rfl
def mfC (f : FuncId) (x y : List AV) (a b : Option (List D)) : AV := match a, b with | some a, some b => .imm (.fn f a b) | _, _ => .clo f x y
theorem mkFn_eq {f : FuncId} {x y : List AV} : mkFn f x y = mfC f x y (dsOf x) (dsOf y) := _root_.id rfl
theorem mf_some {f : FuncId} {x y : List AV} {p q : List D} : mfC f x y (some p) (some q) = .imm (.fn f p q) := _root_.id rfl
theorem mf_none {f : FuncId} {x y : List AV} {p : Option (List D)} : mfC f x y p none = .clo f x y := by cases p <;> rfl
def dcC (d : D) (r : Option (List D)) : Option (List D) := match r with | some ds => some (d :: ds) | none => none
theorem dc_some : dcC d (some ds) = some (d :: ds) := _root_.id rfl
theorem dc_none : dcC d none = none := _root_.id rfl
theorem ds_nil : dsOf [] = some [] := _root_.id rfl
theorem ds_imm : dsOf (.imm d :: r) = dcC d (dsOf r) := _root_.id rfl
theorem ds_agg : dsOf (.agg cs :: r) = none := _root_.id rfl
theorem ds_tup : dsOf (.tup cs :: r) = none := _root_.id rfl
theorem ds_ref {lw : Nat} : dsOf (.ref id sz lw n :: r) = none := _root_.id rfl
theorem ds_ptr : dsOf (.ptr id off :: r) = none := _root_.id rfl
theorem ds_clo {f : FuncId} {x y : List AV} : dsOf (.clo f x y :: r) = none := _root_.id rfl
theorem ds_map : dsOf (.map id :: r) = none := _root_.id rfl
theorem ds_e0 : dsOf (.e0 sz :: r) = none := _root_.id rfl
theorem ds_yield : dsOf (.yield :: r) = none := _root_.id rfl
theorem ce_agg : cellsOf (.imm (.agg ds)) = ds.map .imm := _root_.id rfl
theorem ce_agg' : cellsOf (.agg cs) = cs := _root_.id rfl
theorem ce_int {k : IntKind} {x : Int} : cellsOf (.imm (.int k x)) = [.imm (.int k x)] := _root_.id rfl
theorem ce_bool : cellsOf (.imm (.bool b)) = [.imm (.bool b)] := _root_.id rfl
theorem ce_sl : cellsOf (.imm (.sl sz es)) = [.imm (.sl sz es)] := _root_.id rfl
theorem ce_slD : cellsOf (.imm (slD b sz es)) = [.imm (slD b sz es)] := by cases b <;> cases es <;> rfl
theorem ce_nil : cellsOf (.imm .nil) = [.imm .nil] := _root_.id rfl
theorem ce_str {x : ByteArray} : cellsOf (.imm (.str x)) = [.imm (.str x)] := _root_.id rfl
theorem ce_fn {f : FuncId} {x y : List D} : cellsOf (.imm (.fn f x y)) = [.imm (.fn f x y)] := _root_.id rfl
theorem ce_iptr : cellsOf (.imm (.ptr ds)) = [.imm (.ptr ds)] := _root_.id rfl
theorem ce_ref {lw : Nat} : cellsOf (.ref id sz lw n) = [.ref id sz lw n] := _root_.id rfl
theorem ce_ptr : cellsOf (.ptr id off) = [.ptr id off] := _root_.id rfl
theorem ce_e0 : cellsOf (.e0 sz) = [.e0 sz] := _root_.id rfl
theorem ce_map : cellsOf (.map id) = [.map id] := _root_.id rfl
theorem ce_clo {f : FuncId} {x y : List AV} : cellsOf (.clo f x y) = [.clo f x y] := _root_.id rfl
theorem sg_int {k : IntKind} {x : Int} : single (.imm (.int k x)) = true := _root_.id rfl
theorem sg_bool : single (.imm (.bool b)) = true := _root_.id rfl
theorem sg_sl : single (.imm (.sl sz es)) = true := _root_.id rfl
theorem sg_slD : single (.imm (slD b sz es)) = true := by cases b <;> cases es <;> rfl
theorem sg_nil : single (.imm .nil) = true := _root_.id rfl
theorem sg_str {x : ByteArray} : single (.imm (.str x)) = true := _root_.id rfl
theorem sg_fn {f : FuncId} {x y : List D} : single (.imm (.fn f x y)) = true := _root_.id rfl
theorem sg_iptr : single (.imm (.ptr ds)) = true := _root_.id rfl
theorem sg_ref {lw : Nat} : single (.ref id sz lw n) = true := _root_.id rfl
theorem sg_ptr : single (.ptr id off) = true := _root_.id rfl
theorem sg_e0 : single (.e0 sz) = true := _root_.id rfl
theorem sg_map : single (.map id) = true := _root_.id rfl
theorem sg_clo {f : FuncId} {x y : List AV} : single (.clo f x y) = true := _root_.id rfl
def soC (st : List AO) (id n off : Nat) (vs : List AV) (o : Option AO) : Option (List AO) := match o with
  | some (.box cs) => if off + n ≤ cs.length then some (st.set id (.box (setRange cs off vs))) else none
  | some (.arr sz es) => match es[off / sz]?, dsOf vs with
    | some e, some ds => if off % sz + n ≤ e.length then some (st.set id (.arr sz (es.set (off / sz) (setRange e (off % sz) ds)))) else none
    | _, _ => none
  | _ => none
theorem so_ptr (h1 : (cellsOf v).length = n) (h2 : (cellsOf v).all single = true) : aStore st n (.ptr id off) v = soC st id n off (cellsOf v) st[id]? := by
  simp only [aStore, h1, h2, ne_eq, not_true_eq_false, Bool.true_eq_false, or_self, if_false, soC]; rfl
theorem so_box (h : off + n ≤ cs.length) : soC st id n off vs (some (.box cs)) = some (st.set id (.box (setRange cs off vs))) := by simp [soC, h]
def saC (st : List AO) (id n off sz : Nat) (es : List (List D)) (e : Option (List D)) (ds : Option (List D)) : Option (List AO) := match e, ds with
    | some e, some ds => if off % sz + n ≤ e.length then some (st.set id (.arr sz (es.set (off / sz) (setRange e (off % sz) ds)))) else none
    | _, _ => none
theorem so_arr : soC st id n off vs (some (.arr sz es)) = saC st id n off sz es es[off / sz]? (dsOf vs) := _root_.id rfl
theorem sa_some (h : off % sz + n ≤ e.length) : saC st id n off sz es (some e) (some ds) = some (st.set id (.arr sz (es.set (off / sz) (setRange e (off % sz) ds)))) := by simp [saC, h]
def stC (vars : List AV) (ext : Option Ext) (r : Option (List AO)) : Option (AV × S) := match r with | some st => some (.junk, ⟨vars, st, ext⟩) | none => none
theorem stC_some : stC vars ext (some st) = some (.junk, ⟨vars, st, ext⟩) := _root_.id rfl
theorem op_store {a x : Opnd} : aOp lo vars env ⟨vars, st, ext⟩ (.store n a x) = stC vars ext (aStore st n (opnd vars env a) (opnd vars env x)) := _root_.id rfl
theorem src_nil' : srcOf st (.imm .nil) = some (0, []) := _root_.id rfl
theorem src_sl' : srcOf st (.imm (.sl sz es)) = some (sz, es) := _root_.id rfl
theorem src_e0' : srcOf st (.e0 sz) = some (sz, []) := _root_.id rfl
def srC (sz lw n : Nat) (o : Option AO) : Option (Nat × List (List D)) := match o with
  | some (.arr sz' es) => if sz' = sz ∧ lw + n ≤ es.length then some (sz, (es.drop lw).take n) else none
  | some (.farr sz' es) => if sz' = sz ∧ lw + n ≤ es.length then some (sz, (es.drop lw).take n) else none
  | some (.box cs) => match dsOf cs with | some ds => if (lw + n) * sz ≤ ds.length then some (sz, chunks sz n (ds.drop (lw * sz))) else none | none => none
  | _ => none
theorem src_ref {lw : Nat} : srcOf st (.ref id sz lw n) = srC sz lw n st[id]? := by
  simp only [srcOf, deep, srC]
  cases st[id]? with
  | none => rfl
  | some o =>
    cases o with
    | arr sz' es => by_cases h : sz' = sz ∧ lw + n ≤ es.length <;> simp [h]
    | farr sz' es => by_cases h : sz' = sz ∧ lw + n ≤ es.length <;> simp [h]
    | box cs =>
      dsimp only
      cases dsOf cs with
      | none => rfl
      | some ds => by_cases h : (lw + n) * sz ≤ ds.length <;> simp [h]
    | _ => rfl
theorem sr_arr {lw : Nat} (h : lw + n ≤ es.length) : srC sz lw n (some (.arr sz es)) = some (sz, (es.drop lw).take n) := by simp [srC, h]
theorem sr_farr {lw : Nat} (h : lw + n ≤ es.length) : srC sz lw n (some (.farr sz es)) = some (sz, (es.drop lw).take n) := by simp [srC, h]
def apC (st : List AO) (nid sz bytes : Nat) (s : AV) (r : Option (Nat × List (List D))) : Option (AV × Option Nat × List AO) := match r with
  | none => none
  | some (sz', es) =>
    if es ≠ [] ∧ sz' ≠ sz then none else
    match s with
    | .imm .nil => if es.isEmpty then some (.imm .nil, none, []) else if es.length * (bytes + 1) ≤ room then some (.ref nid sz 0 es.length, none, [.arr sz es]) else none
    | .e0 sz0 => if sz0 ≠ sz then none else if es.isEmpty then some (.e0 sz, none, []) else if es.length * (bytes + 1) ≤ room then some (.ref nid sz 0 es.length, none, [.arr sz es]) else none
    | .ref id sz0 lo n => match st[id]? with
      | some (.arr sz1 old) =>
        if sz0 = sz ∧ sz1 = sz ∧ lo = 0 ∧ n ≤ old.length ∧ (n + es.length) * (bytes + 1) ≤ room then
          some (.ref nid sz 0 (n + es.length), some id, [.arr sz (old.take n ++ es ++ restE sz old (n + es.length))]) else none
      | _ => none
    | _ => none
theorem ap_eq {bytes : Nat} {s x : AV} : aAppend st nid sz bytes s x = apC st nid sz bytes s (srcOf st x) := _root_.id rfl
theorem ap_nil0 {bytes : Nat} : apC st nid sz bytes (.imm .nil) (some (m, [])) = some (.imm .nil, none, []) := by simp [apC]
theorem ap_nil {bytes : Nat} (h0 : es.isEmpty = false) (h : es.length * (bytes + 1) ≤ 70368744177664) : apC st nid sz bytes (.imm .nil) (some (sz, es)) = some (.ref nid sz 0 es.length, none, [.arr sz es]) := by
  simp [apC, h0, room, h]
theorem ap_e00 {bytes : Nat} : apC st nid sz bytes (.e0 sz) (some (m, [])) = some (.e0 sz, none, []) := by simp [apC]
theorem ap_e0 {bytes : Nat} (h0 : es.isEmpty = false) (h : es.length * (bytes + 1) ≤ 70368744177664) : apC st nid sz bytes (.e0 sz) (some (sz, es)) = some (.ref nid sz 0 es.length, none, [.arr sz es]) := by
  simp [apC, h0, room, h]
def arC (nid sz bytes id n m : Nat) (es : List (List D)) (o : Option AO) : Option (AV × Option Nat × List AO) := match o with
      | some (.arr sz1 old) =>
        if (es.isEmpty = true ∨ m = sz) ∧ sz1 = sz ∧ n ≤ old.length ∧ (n + es.length) * (bytes + 1) ≤ 70368744177664 then
          some (.ref nid sz 0 (n + es.length), some id, [.arr sz (old.take n ++ es ++ restE sz old (n + es.length))]) else none
      | _ => none
theorem ap_ref {bytes : Nat} : apC st nid sz bytes (.ref id sz 0 n) (some (m, es)) = arC nid sz bytes id n m es st[id]? := by
  simp only [apC, arC, room]
  by_cases h : es ≠ [] ∧ m ≠ sz
  · have h2 : ¬ (es.isEmpty = true ∨ m = sz) := by simp [List.isEmpty_iff]; exact h
    rw [if_pos h]
    cases st[id]? with
    | none => rfl
    | some o => cases o <;> first | rfl | (dsimp only; rw [if_neg fun hc => h2 hc.1])
  · have h2 : es.isEmpty = true ∨ m = sz := by
      rw [List.isEmpty_iff]
      by_cases h3 : es = []
      · exact .inl h3
      · exact .inr (Classical.byContradiction fun h4 => h ⟨h3, h4⟩)
    rw [if_neg h]
    cases st[id]? with
    | none => rfl
    | some o => cases o <;> first | rfl | (dsimp only; simp only [h2, true_and])
theorem rest_nil {k : Nat} (h : old.length ≤ k) : restE sz old k = [] := by
  unfold restE; split
  · rfl
  · exact List.drop_eq_nil_of_le h
theorem rest_drop {k : Nat} : restE (sz + 1) old k = old.drop k := _root_.id rfl
theorem ar_some {bytes : Nat} (h2 : n = old.length) (h : (n + es.length) * (bytes + 1) ≤ 70368744177664) : arC nid sz bytes id n sz es (some (.arr sz old)) = some (.ref nid sz 0 (n + es.length), some id, [.arr sz (old.take n ++ es)]) := by
  have h3 : n ≤ old.length := Nat.le_of_eq h2
  simp [arC, h3, h, rest_nil (show old.length ≤ n + es.length by omega)]
theorem ar_none {bytes : Nat} (h2 : n = old.length) (h : n * (bytes + 1) ≤ 70368744177664) : arC nid sz bytes id n m [] (some (.arr sz old)) = some (.ref nid sz 0 n, some id, [.arr sz (old.take n)]) := by
  have h3 : n ≤ old.length := Nat.le_of_eq h2
  simp [arC, h3, h, rest_nil (show old.length ≤ n by omega)]
theorem ar_rest {bytes : Nat} (h2 : n ≤ old.length) (h : (n + es.length) * (bytes + 1) ≤ 70368744177664) : arC nid sz bytes id n sz es (some (.arr sz old)) = some (.ref nid sz 0 (n + es.length), some id, [.arr sz (old.take n ++ es ++ restE sz old (n + es.length))]) := by
  simp [arC, h2, h]
def apS (vars : List AV) (st : List AO) (ext : Option Ext) (r : Option (AV × Option Nat × List AO)) : Option (AV × S) := match r with
  | some (v, none, news) => some (v, ⟨vars, st ++ news, ext⟩)
  | some (v, some id, news) => some (v, ⟨vars, st.set id .dead ++ news, ext⟩)
  | none => none
theorem apS_n : apS vars st ext (some (v, none, news)) = some (v, ⟨vars, st ++ news, ext⟩) := _root_.id rfl
theorem apS_s : apS vars st ext (some (v, some id, news)) = some (v, ⟨vars, st.set id .dead ++ news, ext⟩) := _root_.id rfl
theorem op_append {bytes : Nat} {x y : Opnd} : aOp lo vars env ⟨vars, st, ext⟩ (.append sz bytes x y) = apS vars st ext (aAppend st st.length sz bytes (opnd vars env x) (opnd vars env y)) := by
  simp only [aOp, apS]
  rcases aAppend st st.length sz bytes (opnd vars env x) (opnd vars env y) with _ | ⟨_, _ | _, _⟩ <;> rfl
def apQ (r : Option (AV × Option Nat × List AO)) : Option (AV × List AO) := match r with
  | some (v, none, news) => some (v, news)
  | _ => none
theorem apQ_n : apQ (some (v, none, news)) = some (v, news) := _root_.id rfl
theorem q_append' {bytes : Nat} {x y : Opnd} : aQ lo vars env st nid (.append sz bytes x y) = apQ (aAppend st nid sz bytes (opnd vars env x) (opnd vars env y)) := by
  simp only [aQ, apQ]
  rcases aAppend st nid sz bytes (opnd vars env x) (opnd vars env y) with _ | ⟨_, _ | _, _⟩ <;> rfl
def bsC (vars : List AV) (ext : Option Ext) (own : Bool) (sz : Nat) (z : List D) (n : Nat) (ps : List (Nat × AV)) (r : Option (List AO)) : Option (AV × S) := match r with
  | some st => qC ⟨vars, st, ext⟩ (aBs st.length own sz z n (ps.map fun p => (p.1, fz st p.2)))
  | none => none
theorem op_bslice {own : Bool} {z : List D} {ps : List (Nat × Opnd)} : aOp lo vars env ⟨vars, st, ext⟩ (.bslice own sz z n ps) = bsC vars ext own sz z n (ps.map fun p => (p.1, opnd vars env p.2)) (freeze st (idsL (ps.map fun p => opnd vars env p.2))) := by
  simp only [aOp, bsC]
  cases freeze st (idsL (ps.map fun p => opnd vars env p.2)) with
  | none => rfl
  | some st' =>
    simp only [List.map_map, Function.comp_def, qC]
    rcases aBs st'.length own sz z n (ps.map fun p => (p.1, fz st' (opnd vars env p.2))) with _ | ⟨_, _⟩ <;> rfl
theorem bs_some {own : Bool} {z : List D} {ps : List (Nat × AV)} : bsC vars ext own sz z n ps (some st) = qC ⟨vars, st, ext⟩ (aBs st.length own sz z n (ps.map fun p => (p.1, fz st p.2))) := _root_.id rfl
theorem q_bslice' {own : Bool} {z : List D} {ps : List (Nat × Opnd)} : aQ lo vars env st nid (.bslice own sz z n ps) = aBs nid own sz z n (ps.map fun p => (p.1, opnd vars env p.2)) := _root_.id rfl
theorem fz_imm : fz st (.imm d) = .imm d := by simp [fz, ids, isFrz, deep]
def fzC (v : AV) (f : Bool) (r : Option D) : AV := match f, r with | true, some d => .imm d | _, _ => v
theorem fz_eq : fz st v = fzC v (isFrz st (ids v)) (deep st v) := by
  simp only [fz, fzC]
  cases isFrz st (ids v) <;> simp
  cases deep st v <;> rfl
theorem fzC_some : fzC v true (some d) = .imm d := _root_.id rfl
theorem bs_nil {own : Bool} {z : List D} : aBs nid own sz z 0 [] = some (.e0 sz, []) := _root_.id rfl
def boC (own : Bool) (nid sz n : Nat) (ok : Bool) (ds : List D) : Option (AV × List AO) := match ok with
  | true => (match own with | true => some (.ref nid sz 0 n, [.arr sz (chunks sz n ds)]) | false => some (.imm (.sl sz (chunks sz n ds)), []))
  | false => none
theorem bo_f : boC false nid sz n true ds = some (.imm (.sl sz (chunks sz n ds)), []) := _root_.id rfl
theorem bo_t : boC true nid sz n true ds = some (.ref nid sz 0 n, [.arr sz (chunks sz n ds)]) := _root_.id rfl
def bfC (own : Bool) (nid sz n : Nat) (r : Option (List AV)) : Option (AV × List AO) := match r with
  | some cs => match dsOf cs with
    | some ds => boC own nid sz n (decide (n * sz ≤ 16777216) && cs.all single) ds
    | none => none
  | none => none
def bgC (own : Bool) (nid sz n : Nat) (cs : List AV) (r : Option (List D)) : Option (AV × List AO) := match r with
    | some ds => boC own nid sz n (decide (n * sz ≤ 16777216) && cs.all single) ds
    | none => none
theorem bf_some : bfC b nid sz n (some cs) = bgC b nid sz n cs (dsOf cs) := _root_.id rfl
theorem bg_some : bgC b nid sz n cs (some ds) = boC b nid sz n (decide (n * sz ≤ 16777216) && cs.all single) ds := _root_.id rfl
theorem bs_succ {own : Bool} {z : List D} {ps : List (Nat × AV)} : aBs nid own sz z (n + 1) ps = bfC own nid sz (n + 1) (fillA ((List.replicate (n + 1) (z.map .imm)).flatten) (ps.map fun p => (p.1 * sz, sz, p.2))) := by
  simp only [aBs, bfC]
  cases fillA ((List.replicate (n + 1) (z.map .imm)).flatten) (ps.map fun p => (p.1 * sz, sz, p.2)) with
  | none => rfl
  | some cs =>
    simp only
    cases dsOf cs with
    | none => rfl
    | some ds =>
      simp only [boC]
      by_cases h1 : (n + 1) * sz ≤ 16777216 <;> cases h2 : cs.all single <;> cases own <;> simp [h1]
theorem fill_nil {z : List AV} : fillA z [] = some z := _root_.id rfl
theorem fill_cons {z : List AV} {ps : List (Nat × Nat × AV)} (h1 : (cellsOf v).length = n) (h2 : off + n ≤ z.length) (h3 : (cellsOf v).all single = true) : fillA z ((off, n, v) :: ps) = fillA (z.take off ++ cellsOf v ++ z.drop (off + n)) ps := by
  simp only [fillA, h1, h2, h3, and_self, if_true]
theorem ch_zero : chunks sz 0 ds = [] := _root_.id rfl
theorem ch_succ : chunks sz (n + 1) ds = ds.take sz :: chunks sz n (ds.drop sz) := _root_.id rfl
theorem dp_imm : deep st (.imm d) = some d := by simp [deep]
def dlC (r : Option (List D)) (f : List D → D) : Option D := match r with | some ds => some (f ds) | none => none
theorem dl_some {f : List D → D} : dlC (some ds) f = some (f ds) := _root_.id rfl
theorem dp_agg : deep st (.agg cs) = dlC (deepL st cs) .agg := by simp only [deep, dlC]; cases deepL st cs <;> rfl
theorem dp_tup : deep st (.tup cs) = dlC (deepL st cs) .tup := by simp only [deep, dlC]; cases deepL st cs <;> rfl
def drC (sz : Nat) (r : Option (Nat × List (List D))) : Option D := match r with | some (_, es) => some (.sl sz es) | none => none
theorem dr_some : drC sz (some (m, es)) = some (.sl sz es) := _root_.id rfl
theorem dp_ref {lw : Nat} : deep st (.ref id sz lw n) = drC sz (srC sz lw n st[id]?) := by
  simp only [deep, srC, drC]
  cases st[id]? with
  | none => rfl
  | some o =>
    cases o with
    | arr sz' es => by_cases h : sz' = sz ∧ lw + n ≤ es.length <;> simp [h]
    | farr sz' es => by_cases h : sz' = sz ∧ lw + n ≤ es.length <;> simp [h]
    | box cs =>
      simp only
      cases dsOf cs with
      | none => rfl
      | some ds => by_cases h : (lw + n) * sz ≤ ds.length <;> simp [h]
    | _ => rfl
def dpC (off : Nat) (o : Option AO) : Option D := match o with
  | some (.box cs) => (match dsOf (cs.drop off) with | some ds => some (.ptr ds) | none => none)
  | some (.fbox ds) => some (.ptr (ds.drop off))
  | _ => none
theorem dp_ptr : deep st (.ptr id off) = dpC off st[id]? := by
  simp only [deep, rdBox, dpC]
  cases st[id]? with
  | none => rfl
  | some o =>
    cases o with
    | fbox ds => dsimp only; rw [← List.map_drop, dsOf_map']
    | _ => rfl
theorem dpC_box : dpC off (some (.box cs)) = dlC (dsOf (cs.drop off)) .ptr := by simp only [dpC, dlC]
theorem dpC_fbox : dpC off (some (.fbox ds)) = some (.ptr (ds.drop off)) := _root_.id rfl
def dfC (f : FuncId) (r q : Option (List D)) : Option D := match r, q with | some a, some b => some (.fn f a b) | _, _ => none
theorem df_some {f : FuncId} {p q : List D} : dfC f (some p) (some q) = some (.fn f p q) := _root_.id rfl
theorem dp_clo {f : FuncId} {x y : List AV} : deep st (.clo f x y) = dfC f (deepL st x) (deepL st y) := by
  simp only [deep, dfC]; cases deepL st x <;> cases deepL st y <;> rfl
theorem dp_e0 : deep st (.e0 sz) = some (.sl sz []) := by simp [deep]
theorem dL_nil : deepL st [] = some [] := by simp [deepL]
def dkC (a : Option D) (r : Option (List D)) : Option (List D) := match a, r with | some d, some ds => some (d :: ds) | _, _ => none
theorem dk_some : dkC (some d) (some ds) = some (d :: ds) := _root_.id rfl
theorem dL_cons : deepL st (v :: r) = dkC (deep st v) (deepL st r) := by simp only [deepL, dkC]; cases deep st v <;> cases deepL st r <;> rfl
theorem id_imm : ids (.imm d) = [] := by simp [ids]
theorem id_agg : ids (.agg cs) = idsL cs := by simp [ids]
theorem id_tup : ids (.tup cs) = idsL cs := by simp [ids]
theorem id_ref {lw : Nat} : ids (.ref id sz lw n) = [id] := by simp [ids]
theorem id_ptr : ids (.ptr id off) = [id] := by simp [ids]
theorem id_map : ids (.map id) = [id] := by simp [ids]
theorem id_clo {f : FuncId} {x y : List AV} : ids (.clo f x y) = idsL x ++ idsL y := by simp [ids]
theorem id_e0 : ids (.e0 sz) = [] := by simp [ids]
theorem id_yield : ids .yield = [] := by simp [ids]
theorem id_junk : ids .junk = [] := by simp [ids]
theorem iL_nil : idsL [] = [] := by simp [idsL]
theorem iL_cons : idsL (v :: r) = ids v ++ idsL r := by simp [idsL]
theorem if_nil : isFrz st [] = true := by simp [isFrz]
def fnC (o : Option AO) : Bool := match o with | some (.fbox _) | some (.farr _ _) => true | _ => false
theorem if_cons {is : List Nat} : isFrz st (i :: is) = (fnC st[i]? && isFrz st is) := by
  simp only [isFrz, fnC]; rfl
theorem fn_fbox : fnC (some (.fbox ds)) = true := _root_.id rfl
theorem fn_farr : fnC (some (.farr sz es)) = true := _root_.id rfl
theorem fn_box : fnC (some (.box cs)) = false := _root_.id rfl
theorem fn_arr : fnC (some (.arr sz es)) = false := _root_.id rfl
theorem fr_nil : freeze st [] = some st := _root_.id rfl
def fsC (i : Nat) (st : List AO) (o : Option AO) : Option (List AO) := match o with | some o => some (st.set i o) | none => none
theorem fs_some {o : AO} : fsC i st (some o) = some (st.set i o) := _root_.id rfl
def frC (i : Nat) (r : Option (List AO)) : Option (List AO) := match r with | some st => fsC i st (frozenO (st.getD i .dead)) | none => none
theorem fr_some : frC i (some st) = fsC i st (frozenO (st.getD i .dead)) := _root_.id rfl
theorem fr_cons {is : List Nat} : freeze st (i :: is) = frC i (freeze st is) := by
  simp only [freeze, frC, fsC]
  rcases freeze st is with _ | _ <;> first | rfl | (simp only; rcases frozenO _ with _ | _ <;> rfl)
theorem fo_arr : frozenO (.arr sz es) = some (.farr sz es) := _root_.id rfl
theorem fo_farr : frozenO (.farr sz es) = some (.farr sz es) := _root_.id rfl
theorem fo_fbox : frozenO (.fbox ds) = some (.fbox ds) := _root_.id rfl
def fbC (r : Option (List D)) : Option AO := match r with | some ds => some (.fbox ds) | none => none
theorem fo_box : frozenO (.box cs) = fbC (dsOf cs) := by simp only [frozenO, fbC]; cases dsOf cs <;> rfl
theorem fb_some : fbC (some ds) = some (.fbox ds) := _root_.id rfl
def cpC (s : S) (is : List Nat) (r : Option D) : Option (AV × S) := match r with
  | none => none
  | some d => if isFrz s.st is || flatD d then some (.imm d, s) else match freeze s.st is with
    | some st => some (.imm d, { s with st := st })
    | none => none
theorem cp_some {is : List Nat} (h : (isFrz st is || flatD d) = true) : cpC ⟨vars, st, ext⟩ is (some d) = some (.imm d, ⟨vars, st, ext⟩) := by simp [cpC, h]
def cqC (d : D) (vars : List AV) (ext : Option Ext) (r : Option (List AO)) : Option (AV × S) := match r with | some st => some (.imm d, ⟨vars, st, ext⟩) | none => none
theorem cq_some : cqC d vars ext (some st) = some (.imm d, ⟨vars, st, ext⟩) := _root_.id rfl
theorem cp_frz {is : List Nat} (h : (isFrz st is || flatD d) = false) : cpC ⟨vars, st, ext⟩ is (some d) = cqC d vars ext (freeze st is) := by simp [cpC, h, cqC]
def cdC (lo : Lower) (f : FuncId) (s : S) (is : List Nat) (r : Option (List D)) : Option (AV × S) := match r with | none => none | some ds => cpC s is (callP lo f ds)
theorem cd_some {f : FuncId} {is : List Nat} : cdC lo f s is (some ds) = cpC s is (callP lo f ds) := _root_.id rfl
def cfC (lo : Lower) (s : S) (vs : List AV) (r : Option (FuncId × List AV × List AV)) : Option (AV × S) := match r with
  | none => none
  | some (f, a, b) => cdC lo f s (idsL (a ++ vs ++ b)) (deepL s.st (a ++ vs ++ b))
theorem cf_some {f : FuncId} {p q : List AV} : cfC lo ⟨vars, st, ext⟩ vs (some (f, p, q)) = cdC lo f ⟨vars, st, ext⟩ (idsL (p ++ vs ++ q)) (deepL st (p ++ vs ++ q)) := _root_.id rfl
theorem fo_imm {f : FuncId} {x y : List D} : fnOf (.imm (.fn f x y)) = some (f, x.map .imm, y.map .imm) := _root_.id rfl
theorem fo_clo {f : FuncId} {x y : List AV} : fnOf (.clo f x y) = some (f, x, y) := _root_.id rfl
theorem op_callP {f : Opnd} {args : List Opnd} (h : (fnOf (opnd vars env f)).isSome = true) : aOp lo vars env ⟨vars, st, ext⟩ (.call .pure f args) = cfC lo ⟨vars, st, ext⟩ (opnds vars env args) (fnOf (opnd vars env f)) := by
  simp only [aOp, aCall]
  split
  · rename_i e; rw [e] at h; cases h
  · simp only [cfC]
    rcases fnOf (opnd vars env f) with _ | ⟨f, a, b⟩
    · rfl
    · simp only [cdC]
      rcases deepL st (a ++ opnds vars env args ++ b) with _ | ds
      · rfl
      · simp only [cpC]
        rcases callP lo f ds with _ | d
        · rfl
        · simp only
          split
          · rfl
          · rcases freeze st (idsL (a ++ opnds vars env args ++ b)) with _ | _ <;> rfl
theorem os_nil : opnds vars env [] = [] := _root_.id rfl
theorem os_cons {x : Opnd} {xs : List Opnd} : opnds vars env (x :: xs) = opnd vars env x :: opnds vars env xs := _root_.id rfl
theorem od_var : opnd vars env (.var i) = vars.getD i .junk := _root_.id rfl
theorem od_loc : opnd vars env (.loc i) = env.getD i .junk := _root_.id rfl
theorem od_k : opnd vars env (.k d) = .imm d := _root_.id rfl
theorem fl_int {k : IntKind} {x : Int} : flatD (.int k x) = true := by simp [flatD]
theorem fl_bool : flatD (.bool b) = true := by simp [flatD]
theorem fl_nil : flatD .nil = true := by simp [flatD]
theorem fl_sl : flatD (.sl sz es) = false := by simp [flatD]
theorem fl_ptr : flatD (.ptr ds) = false := by simp [flatD]
theorem fl_fn {f : FuncId} {x y : List D} : flatD (.fn f x y) = false := by simp [flatD]
theorem fl_tup : flatD (.tup ds) = flatDL ds := by simp [flatD]
theorem fl_agg : flatD (.agg ds) = flatDL ds := by simp [flatD]
theorem fL_nil : flatDL [] = true := by simp [flatDL]
theorem fL_cons : flatDL (d :: ds) = (flatD d && flatDL ds) := by simp [flatDL]
def gcC (ext : Option Ext) (st : List AO) (vs : List AV) (l : List Nat) : S := ⟨renL (idx l) vs, pickSt (idx l) l st, ext⟩
theorem head_eq {rd : Bool} {kp : List Nat} : head ⟨n, rd⟩ kp ⟨vars, st, ext⟩ = gcC ext st (keepVars kp vars) (keepIds n (idsL (keepVars kp vars)) st) := _root_.id rfl
theorem gcC_eq {l : List Nat} : gcC ext st vs l = ⟨renL (idx l) vs, pickSt (idx l) l st, ext⟩ := _root_.id rfl
theorem kv_nil : keepVars [] [] = [] := _root_.id rfl
theorem kv_0 {ks : List Nat} : keepVars (0 :: ks) (v :: r) = .junk :: keepVars ks r := _root_.id rfl
theorem kv_1 {ks : List Nat} : keepVars (1 :: ks) (v :: r) = v :: keepVars ks r := _root_.id rfl
theorem ki_eq {roots : List Nat} : keepIds n roots st = reach st 1000 (List.range n) ((List.range n).flatMap (fun i => aoIds (st.getD i .dead)) ++ roots) := _root_.id rfl
theorem fm_nil {f : Nat → List Nat} : List.flatMap f [] = [] := _root_.id rfl
theorem fm_cons {f : Nat → List Nat} {is : List Nat} : List.flatMap f (i :: is) = f i ++ List.flatMap f is := by simp
theorem rc_nil {acc : List Nat} : reach st n acc [] = acc := by cases n <;> rfl
theorem rc_in {acc todo : List Nat} (h : acc.contains i = true) : reach st (n + 1) acc (i :: todo) = reach st n acc todo := by simp only [reach, h, if_true]
theorem rc_out {acc todo : List Nat} (h : acc.contains i = false) : reach st (n + 1) acc (i :: todo) = reach st n (acc ++ [i]) (todo ++ aoIds (st.getD i .dead)) := by simp only [reach, h]; rfl
theorem ai_box : aoIds (.box cs) = idsL cs := _root_.id rfl
theorem ai_fbox : aoIds (.fbox ds) = [] := _root_.id rfl
theorem ai_arr : aoIds (.arr sz es) = [] := _root_.id rfl
theorem ai_farr : aoIds (.farr sz es) = [] := _root_.id rfl
theorem ai_imap {es : List (Int × D)} : aoIds (.imap es) = [] := _root_.id rfl
theorem ai_iter {x : ByteArray} : aoIds (.iter x n) = [] := _root_.id rfl
theorem ai_dead : aoIds .dead = [] := _root_.id rfl
theorem ix_hit {is : List Nat} : idx (i :: is) i = some 0 := by simp [idx, List.idxOf?, List.findIdx?_cons]
theorem ix_miss {is : List Nat} (h : (m == i) = false) : idx (m :: is) i = (idx is i).map (· + 1) := by simp [idx, List.idxOf?, List.findIdx?_cons, h]
theorem ix_nil : idx [] i = none := by simp [idx]
theorem rL_nil {f : Nat → Option Nat} : renL f [] = [] := by simp [renL]
theorem rL_cons {f : Nat → Option Nat} : renL f (v :: r) = ren f v :: renL f r := by simp [renL]
theorem rn_imm {f : Nat → Option Nat} : ren f (.imm d) = .imm d := by simp [ren]
theorem rn_agg {f : Nat → Option Nat} : ren f (.agg cs) = .agg (renL f cs) := by simp [ren]
theorem rn_tup {f : Nat → Option Nat} : ren f (.tup cs) = .tup (renL f cs) := by simp [ren]
def rfC (o : Option Nat) (sz lw n : Nat) : AV := match o with | some j => .ref j sz lw n | none => .junk
theorem rf_some {lw : Nat} : rfC (some i) sz lw n = .ref i sz lw n := _root_.id rfl
theorem rn_ref {f : Nat → Option Nat} {lw : Nat} : ren f (.ref id sz lw n) = rfC (f id) sz lw n := by simp only [ren, rfC]; rfl
def rpC (o : Option Nat) (off : Nat) : AV := match o with | some j => .ptr j off | none => .junk
theorem rp_some : rpC (some i) off = .ptr i off := _root_.id rfl
theorem rn_ptr {f : Nat → Option Nat} : ren f (.ptr id off) = rpC (f id) off := by simp only [ren, rpC]; rfl
def rmC (o : Option Nat) : AV := match o with | some j => .map j | none => .junk
theorem rm_some : rmC (some i) = .map i := _root_.id rfl
theorem rn_map {f : Nat → Option Nat} : ren f (.map id) = rmC (f id) := by simp only [ren, rmC]; rfl
theorem rn_clo {f : Nat → Option Nat} {g : FuncId} {x y : List AV} : ren f (.clo g x y) = .clo g (renL f x) (renL f y) := by simp [ren]
theorem rn_e0 {f : Nat → Option Nat} : ren f (.e0 sz) = .e0 sz := by simp [ren]
theorem rn_yield {f : Nat → Option Nat} : ren f .yield = .yield := by simp [ren]
theorem rn_junk {f : Nat → Option Nat} : ren f .junk = .junk := by simp [ren]
theorem pk_nil {f : Nat → Option Nat} : pickSt f [] st = [] := _root_.id rfl
theorem pk_cons {f : Nat → Option Nat} {is : List Nat} : pickSt f (i :: is) st = renO f (st.getD i .dead) :: pickSt f is st := _root_.id rfl
theorem ro_box {f : Nat → Option Nat} : renO f (.box cs) = .box (renL f cs) := _root_.id rfl
theorem ro_fbox {f : Nat → Option Nat} : renO f (.fbox ds) = .fbox ds := _root_.id rfl
theorem ro_arr {f : Nat → Option Nat} : renO f (.arr sz es) = .arr sz es := _root_.id rfl
theorem ro_farr {f : Nat → Option Nat} : renO f (.farr sz es) = .farr sz es := _root_.id rfl
theorem ro_imap {f : Nat → Option Nat} {es : List (Int × D)} : renO f (.imap es) = .imap es := _root_.id rfl
theorem ro_iter {f : Nat → Option Nat} {x : ByteArray} : renO f (.iter x n) = .iter x n := _root_.id rfl
theorem ro_dead {f : Nat → Option Nat} : renO f .dead = .dead := _root_.id rfl
theorem sh_M : shiftM n i = some (n + i) := _root_.id rfl
def rsC (r : Option (List AV)) : Option AV := match r with | some [v] => some v | some vs => some (mkTup vs) | none => none
theorem rs_one : rsC (some [v]) = some v := _root_.id rfl
theorem rs_two {x y : AV} : rsC (some (x :: y :: r)) = some (mkTup (x :: y :: r)) := _root_.id rfl
theorem rs_zero : rsC (some []) = some (mkTup []) := _root_.id rfl
theorem res_eq {l : List RV} : results s l = rsC (resVs s l) := _root_.id rfl
theorem rv_nil : resVs s [] = some [] := _root_.id rfl
def rcC (a : Option AV) (r : Option (List AV)) : Option (List AV) := match a, r with | some v, some vs => some (v :: vs) | _, _ => none
theorem rcC_some : rcC (some v) (some vs) = some (v :: vs) := _root_.id rfl
theorem rv_cons {x : RV} {xs : List RV} : resVs s (x :: xs) = rcC (resV s x) (resVs s xs) := by simp only [resVs, rcC]; cases resV s x <;> cases resVs s xs <;> rfl
theorem rv_v : resV ⟨vars, st, ext⟩ (.v i) = some (vars.getD i .junk) := _root_.id rfl
theorem rv_cell {g : Bool} : resV ⟨vars, st, ext⟩ (.cell i g n) = aLoad st g n (vars.getD i .junk) := _root_.id rfl
end
def fin (res : List RV) (r : Option (AExit × S)) : Option (AV × List AO × Option Ext) := match r with
  | some (.normal, s) => (match results s res with | some v => some (v, s.st, s.ext) | none => none)
  | some (.ret, s) => (match results s res with | some v => some (v, s.st, s.ext) | none => none)
  | _ => none
def fvC (st : List AO) (ext : Option Ext) (r : Option AV) : Option (AV × List AO × Option Ext) := match r with | some v => some (v, st, ext) | none => none
theorem fv_some {v : AV} {st : List AO} {ext : Option Ext} : fvC st ext (some v) = some (v, st, ext) := id rfl
theorem fin_ret {res : List RV} {vars : List AV} {st : List AO} {ext : Option Ext} : fin res (some (.ret, ⟨vars, st, ext⟩)) = fvC st ext (results ⟨vars, st, ext⟩ res) := by
  simp only [fin, fvC]
theorem fin_normal {res : List RV} {vars : List AV} {st : List AO} {ext : Option Ext} : fin res (some (.normal, ⟨vars, st, ext⟩)) = fvC st ext (results ⟨vars, st, ext⟩ res) := by
  simp only [fin, fvC]
theorem run_eq {lo : Lower} {fn : IFn} {args : List AV} {st : List AO} {ext : Option Ext} (h : decide (fn.np < args.length) = false) : runFn lo fn args st ext = fin fn.res (aCode lo { nb := st.length, rd := false } fn.body { vars := args ++ List.replicate (fn.nv - args.length) .junk, st := st, ext := ext }) := by
  have h' : ¬ fn.np < args.length := by simpa using h
  simp only [runFn, h', if_false, fin]
  rcases aCode lo { nb := st.length, rd := false } fn.body { vars := args ++ List.replicate (fn.nv - args.length) .junk, st := st, ext := ext } with _ | ⟨_ | _ | _, _⟩ <;> rfl
def pdC (r : Option (AV × List AO × Option Ext)) : Option D := match r with
  | some (v, st, none) => deep st v
  | _ => none
theorem pd_some {v : AV} {st : List AO} : pdC (some (v, st, none)) = deep st v := id rfl
theorem callP_eq {E : Env} {n : Nat} {f : FuncId} {fn : IFn} {ds : List D} (h : E.fn f = some fn) : callP (level E (n + 1)) f ds = pdC (runFn (level E n) fn (ds.map .imm) [] none) := by
  simp only [callP, level, h, pdC]
  rcases runFn (level E n) fn (ds.map .imm) [] none with _ | ⟨_, _, _ | _⟩ <;> rfl
def piC (r : Option (AV × List AO × Option Ext)) : Option (AV × List AO) := match r with
  | some (v, st, none) => some ((gc 0 [v] st).1.headD .junk, (gc 0 [v] st).2)
  | _ => none
theorem pi_some {v : AV} {st : List AO} : piC (some (v, st, none)) = some ((gc 0 [v] st).1.headD .junk, (gc 0 [v] st).2) := id rfl
theorem callI_eq {E : Env} {n : Nat} {f : FuncId} {fn : IFn} {ds : List D} (h : E.fn f = some fn) : callI (level E (n + 1)) f ds = piC (runFn (level E n) fn (ds.map .imm) [] none) := by
  simp only [callI, level, h, piC]
  rcases runFn (level E n) fn (ds.map .imm) [] none with _ | ⟨_, _, _ | _⟩ <;> rfl
def psC (n : Nat) (r : Option (AV × List AO × Option Ext)) : Option (AV × List AO) := match r with
  | some (v, st, none) => some ((gc n [v] st).1.headD .junk, (gc n [v] st).2)
  | _ => none
theorem ps_some {n : Nat} {v : AV} {st : List AO} : psC n (some (v, st, none)) = some ((gc n [v] st).1.headD .junk, (gc n [v] st).2) := id rfl
theorem callS_eq {E : Env} {n : Nat} {f : FuncId} {fn : IFn} {vs : List AV} {st : List AO} (h : E.fn f = some fn) : callS (level E (n + 1)) f vs st = psC st.length (runFn (level E n) fn vs st none) := by
  simp only [callS, level, h, psC]
  rcases runFn (level E n) fn vs st none with _ | ⟨_, _, _ | _⟩ <;> rfl
section
variable {lo : Lower} {env vars vs : List AV} {st news : List AO} {ext : Option Ext} {ds : List D} {v : AV}
def ciC (s : S) (is : List Nat) (r : Option (AV × List AO)) : Option (AV × S) := match r with
  | none => none
  | some r => if isFrz s.st is || (flatV r.1 && flatOL r.2) then some (ren (shiftM s.st.length) r.1, { s with st := s.st ++ r.2.map (renO (shiftM s.st.length)) }) else match freeze s.st is with
    | some st => some (ren (shiftM s.st.length) r.1, { s with st := st ++ r.2.map (renO (shiftM s.st.length)) })
    | none => none
theorem ci_some {is : List Nat} (h : (isFrz st is || (flatV v && flatOL news)) = true) : ciC ⟨vars, st, ext⟩ is (some (v, news)) = some (ren (shiftM st.length) v, ⟨vars, st ++ news.map (renO (shiftM st.length)), ext⟩) := by
  simp only [ciC, h, if_true]
def cjC (v : AV) (vars : List AV) (n : Nat) (news : List AO) (ext : Option Ext) (r : Option (List AO)) : Option (AV × S) := match r with
  | some st => some (ren (shiftM n) v, ⟨vars, st ++ news.map (renO (shiftM n)), ext⟩)
  | none => none
theorem cj_some {n : Nat} : cjC v vars n news ext (some st) = some (ren (shiftM n) v, ⟨vars, st ++ news.map (renO (shiftM n)), ext⟩) := id rfl
theorem ci_frz {is : List Nat} (h : (isFrz st is || (flatV v && flatOL news)) = false) : ciC ⟨vars, st, ext⟩ is (some (v, news)) = cjC v vars st.length news ext (freeze st is) := by
  simp only [ciC, h, Bool.false_eq_true, if_false, cjC]
def ceC (lo : Lower) (f : FuncId) (s : S) (is : List Nat) (r : Option (List D)) : Option (AV × S) := match r with | none => none | some ds => ciC s is (callI lo f ds)
theorem ce_some {f : FuncId} {s : S} {is : List Nat} : ceC lo f s is (some ds) = ciC s is (callI lo f ds) := id rfl
def cgC (lo : Lower) (s : S) (vs : List AV) (r : Option (FuncId × List AV × List AV)) : Option (AV × S) := match r with
  | none => none
  | some (f, a, b) => ceC lo f s (idsL (a ++ vs ++ b)) (deepL s.st (a ++ vs ++ b))
theorem cg_some {f : FuncId} {p q : List AV} : cgC lo ⟨vars, st, ext⟩ vs (some (f, p, q)) = ceC lo f ⟨vars, st, ext⟩ (idsL (p ++ vs ++ q)) (deepL st (p ++ vs ++ q)) := id rfl
theorem op_callI {f : Opnd} {args : List Opnd} (h : (fnOf (opnd vars env f)).isSome = true) : aOp lo vars env ⟨vars, st, ext⟩ (.call .imp f args) = cgC lo ⟨vars, st, ext⟩ (opnds vars env args) (fnOf (opnd vars env f)) := by
  simp only [aOp, aCall]
  split
  · rename_i e; rw [e] at h; cases h
  · simp only [cgC]
    rcases fnOf (opnd vars env f) with _ | ⟨f, a, b⟩
    · rfl
    · simp only [ceC]
      rcases deepL st (a ++ opnds vars env args ++ b) with _ | ds
      · rfl
      · simp only [ciC]
        rcases callI lo f ds with _ | d
        · rfl
        · simp only
          split
          · rfl
          · rcases freeze st (idsL (a ++ opnds vars env args ++ b)) with _ | _ <;> rfl
theorem fv_imm {d : D} : flatV (.imm d) = flatD d := by simp [flatV]
theorem fv_ref {id sz lw n : Nat} : flatV (.ref id sz lw n) = true := by simp [flatV]
theorem fv_e0 {sz : Nat} : flatV (.e0 sz) = true := by simp [flatV]
theorem fv_agg {cs : List AV} : flatV (.agg cs) = flatVL cs := by simp [flatV]
theorem fVL_nil : flatVL [] = true := by simp [flatVL]
theorem fVL_cons {r : List AV} : flatVL (v :: r) = (flatV v && flatVL r) := by simp [flatVL]
theorem fOL_nil : flatOL [] = true := by simp [flatOL]
theorem fOL_cons {o : AO} {r : List AO} : flatOL (o :: r) = (flatO o && flatOL r) := by simp [flatOL]
theorem fO_arr {sz : Nat} {es : List (List D)} : flatO (.arr sz es) = flatDLL es := by simp [flatO]
end
end Go.Vm

/- Evaluating: the rules, under one name. -/
namespace Go.Vm
open Go
attribute [go_sem] thenC_normal thenC_ret thenC_exit blkC_normal blkC_ret blkC_here blkC_on regC_some envC_some outC_some ac_skip ac_ret ac_exit ac_seq ac_region ac_block ac_true ac_false ac_scope
  setW_none setW_some ao_nil nx_some ao_op ao_do ao_tf ao_ft ao_no qC_nil qC_new vl_some op_mv op_pick op_alloc op_box op_build op_load op_nilck op_bin op_eqs op_un op_conv op_same
  op_mkfn op_mkmap op_lookup op_mkslice op_slice op_faddr op_field op_iaddr op_index op_extract op_len op_mnmx q_mv pick_t pick_f q_pick q_alloc box_t q_box bld_some q_build q_load
  nck_ptr nck_imm q_nilck q_bin eq_f eq_t q_eqs q_un cv_int q_conv q_same q_mkfn q_mkmap q_lookup mk_ok q_mkslice bd_none bd_int sl_some q_slice fa_ptr fa_imm q_faddr fd_agg fd_one
  q_field ia_some q_iaddr q_index ix_some iy_agg iy_one ex_imm ex_tup q_extract ln_some q_len mn_int mx_int q_mnmx bin_add bin_sub bin_mul bin_quo bin_rem bin_eql bin_neq bin_lss
  bin_leq bin_gtr bin_geq bin_shr un_not un_neg eq_bool getI_int keyI_int len_sl len_nil len_slD len_ref len_e0 len_str len_map ml_imap iaP_some ia_slN ia_slDN ia_ref ia_arr ia_arrI
  ld_immT ld_immF ld_ptr ldC_boxF ldC_boxT ldC_fboxF el_some em_some ldC_arrF ldC_farrF ldC_arrT ldC_farrT ldC_fboxT mkAgg_eq ma_some ma_none mkTup_eq mt_some mt_none mkFn_eq mf_some
  mf_none dc_some dc_none ds_nil ds_imm ds_agg ds_tup ds_ref ds_ptr ds_clo ds_map ds_e0 ds_yield ce_agg ce_agg' ce_int ce_bool ce_sl ce_slD ce_nil ce_str ce_fn ce_iptr ce_ref ce_ptr
  ce_e0 ce_map ce_clo sg_int sg_bool sg_sl sg_slD sg_nil sg_str sg_fn sg_iptr sg_ref sg_ptr sg_e0 sg_map sg_clo so_ptr so_box so_arr sa_some stC_some op_store src_nil' src_sl'
  src_e0' src_ref sr_arr sr_farr ap_eq ap_nil0 ap_nil ap_e00 ap_e0 ap_ref ar_some ar_none apS_n apS_s op_append apQ_n q_append' op_bslice bs_some q_bslice' fz_imm fz_eq fzC_some
  bs_nil bo_f bo_t bf_some bg_some bs_succ fill_nil fill_cons ch_zero ch_succ dp_imm dl_some dp_agg dp_tup dr_some dp_ref dp_ptr dpC_box dpC_fbox df_some dp_clo dp_e0 dL_nil dk_some
  dL_cons id_imm id_agg id_tup id_ref id_ptr id_map id_clo id_e0 id_yield id_junk iL_nil iL_cons if_nil if_cons fn_fbox fn_farr fn_box fn_arr fr_nil fs_some fr_some fr_cons fo_arr
  fo_farr fo_fbox fo_box fb_some cp_some cq_some cp_frz cd_some cf_some fo_imm fo_clo op_callP os_nil os_cons od_var od_loc od_k fl_int fl_bool fl_nil fl_sl fl_ptr fl_fn fl_tup
  fl_agg fL_nil fL_cons head_eq gcC_eq kv_nil kv_0 kv_1 ki_eq fm_nil fm_cons rc_nil rc_in rc_out ai_box ai_fbox ai_arr ai_farr ai_imap ai_iter ai_dead ix_hit ix_miss ix_nil rL_nil
  rL_cons rn_imm rn_agg rn_tup rf_some rn_ref rp_some rn_ptr rm_some rn_map rn_clo rn_e0 rn_yield rn_junk pk_nil pk_cons ro_box ro_fbox ro_arr ro_farr ro_imap ro_iter ro_dead sh_M
  rs_one rs_two rs_zero res_eq rv_nil rcC_some rv_cons rv_v rv_cell fv_some fin_ret fin_normal pd_some pi_some ps_some ci_some cj_some ci_frz ce_some cg_some op_callI fv_imm fv_ref
  fv_e0 fv_agg fVL_nil fVL_cons fOL_nil fOL_cons fO_arr gd0 gd1 gd2 gd3 gd4 gd5 gd6 gd7 gd8 gd9 gd10 gd11 gd12 gd13 gd14 gd15 gd16 gd17 gd18 gd19 gd20 gd21 gd22 gd23 gd24 gd25 gd26
  gd27 gd28 gd29 gd30 gd31 gd32 gd33 gd34 gd35 gd36 gd37 gd38 gd39 gd40 gd41 gd42 gd43 gd44 gd45 gd46 gd47 gd48 gd49 gd50 gd51 gd52 gd53 gd54 gd55 gd56 gd57 gd58 gd59 gd60 gd61 gd62
  gd63 st0 st1 st2 st3 st4 st5 st6 st7 st8 st9 st10 st11 st12 st13 st14 st15 st16 st17 st18 st19 st20 st21 st22 st23 st24 st25 st26 st27 st28 st29 st30 st31 st32 st33 st34 st35 st36
  st37 st38 st39 st40 st41 st42 st43 st44 st45 st46 st47 st48 st49 st50 st51 st52 st53 st54 st55 st56 st57 st58 st59 st60 st61 st62 st63 gx0 gx1 gx2 gx3 gx4 gx5 gx6 gx7 gx8 gx9 gx10
  gx11 gx12 gx13 gx14 gx15 gx16 gx17 gx18 gx19 gx20 gx21 gx22 gx23 rg0 rg1 rg2 rg3 rg4 rg5 rg6 rg7 rg8 rg9 rg10 rg11 rp0 rp1 rp2 rp3 rp4 rp5 rp6 rp7 rp8 rp9 rp10 rp11 rp12 rp13 rp14
  rp15 rp16 rp17 rp18 rp19 rp20 rp21 rp22 rp23 rp24 rp25 rp26 rp27 rp28 rp29 rp30 rp31 rp32 rp33 rp34 rp35 rp36 rp37 rp38 rp39 rp40 rp41 rp42 rp43 rp44 rp45 rp46 rp47 rp48 rp49 rp50
  rp51 rp52 rp53 rp54 rp55 rp56 rp57 rp58 rp59 rp60 rp61 rp62 rp63 rp64 rp65 rp66 rp67 rp68 rp69 List.nil_append List.cons_append List.append_nil List.map_cons List.map_nil
  List.length_cons List.length_nil List.take_succ_cons List.take_zero List.drop_succ_cons List.drop_zero List.headD_cons List.all_cons List.all_nil Bool.and_true Bool.true_and
  Bool.and_false Bool.false_and Bool.or_true Bool.true_or Bool.or_false Bool.false_or Bool.not_true Bool.not_false decide_true decide_false if_true if_false Option.map_some
  Option.map_none Option.isSome_some List.flatten_cons List.flatten_nil setRange List.length_append List.length_map Int.toNat_natCast List.take_length List.length_range reduceIte
  List.map_append List.isEmpty_cons List.isEmpty_nil
end Go.Vm

/- Evaluating: loops, and lists of numbers. -/
namespace Go.Vm
open Go
noncomputable def lpC (f : S → Option (AExit × S)) (h : S → S) (r : Option (AExit × S)) : Option (AExit × S) :=
  match r with
  | some (.normal, s) => loopC f h s
  | r => r
noncomputable def rnd (f : S → Option (AExit × S)) (h : S → S) (t : S) : Option (AExit × S) := lpC f h (f t)
section
variable {f : S → Option (AExit × S)} {h : S → S} {s : S}
theorem rnd_eq (f : S → Option (AExit × S)) (h : S → S) (t : S) : rnd f h t = lpC f h (f t) := id rfl
theorem loop_rnd : loopC f h s = rnd f h (h s) := loopC_step f h s
theorem lp_normal : lpC f h (some (.normal, s)) = rnd f h (h s) := loop_rnd
theorem lp_ret : lpC f h (some (.ret, s)) = some (.ret, s) := id rfl
theorem lp_exit {i : Nat} : lpC f h (some (.exit i, s)) = some (.exit i, s) := id rfl
theorem ac_loop' {lo : Lower} {cx : Cx} {b : IR} {kp out : List Nat} : aCode lo cx (.loop kp out b) s = outC cx out (rnd (aCode lo cx b) (head cx kp) (head cx kp s)) := by rw [ac_loop, loop_rnd]
end
theorem drop_c {α : Type} {l : List α} {i : Nat} {x : α} {r : List α} (h : l.drop i = x :: r) : l[i]? = some x ∧ i < l.length ∧ l.drop (i + 1) = r := by
  have hi : i < l.length := by
    apply Classical.byContradiction
    intro hc
    rw [List.drop_eq_nil_of_le (by omega)] at h
    cases h
  rw [List.drop_eq_getElem_cons hi] at h
  injection h with h1 h2
  exact ⟨by rw [List.getElem?_eq_getElem hi, h1], hi, h2⟩
theorem drop_n {α : Type} {l : List α} {i : Nat} (h : l.drop i = []) : l.length ≤ i := by
  simpa using h
theorem wrpS {i : Nat} (h : i < 4611686018427387904) : wrp .i64 ((i : Int) + 1) = ((i + 1 : Nat) : Int) := by
  rw [wrp_ok (by omega)]; rfl
def ic (n : Int) : List D := [.int .i64 n]
def enI (b : Bool) (l : List Int) : D := slD b 1 (l.map ic)
abbrev big : Nat := 1000000000
theorem lt_t {a b : Nat} (h : a < b) : decide ((a : Int) < (b : Int)) = true := by simp; omega
theorem lt_f {a b : Nat} (h : b ≤ a) : decide ((a : Int) < (b : Int)) = false := by simp; omega
theorem callP_go {E : Env} {n : Nat} {f : FuncId} {fn : IFn} {ds : List D} {c : IR} {r : List RV} {vars : List AV} (h : E.fn f = some fn) (h1 : fn.body = c) (h2 : fn.res = r) (h3 : decide (fn.np < (ds.map AV.imm).length) = false) (h4 : ds.map AV.imm ++ List.replicate (fn.nv - (ds.map AV.imm).length) .junk = vars) :
    callP (level E (n + 1)) f ds = pdC (fin r (aCode (level E n) ⟨0, false⟩ c ⟨vars, [], none⟩)) := by
  rw [callP_eq h, run_eq h3, h1, h2, h4]; rfl
theorem callI_go {E : Env} {n : Nat} {f : FuncId} {fn : IFn} {ds : List D} {c : IR} {r : List RV} {vars : List AV} (h : E.fn f = some fn) (h1 : fn.body = c) (h2 : fn.res = r) (h3 : decide (fn.np < (ds.map AV.imm).length) = false) (h4 : ds.map AV.imm ++ List.replicate (fn.nv - (ds.map AV.imm).length) .junk = vars) :
    callI (level E (n + 1)) f ds = piC (fin r (aCode (level E n) ⟨0, false⟩ c ⟨vars, [], none⟩)) := by
  rw [callI_eq h, run_eq h3, h1, h2, h4]; rfl
attribute [go_sem] ac_loop' lp_normal lp_ret lp_exit enI ic List.getElem?_map
end Go.Vm

/- Evaluating: regions whose order is open. -/
namespace Go.Vm
open Go
section
variable {lo : Lower} {cx : Cx} {s : S} {env vars vs : List AV} {st news n1 : List AO} {ext : Option Ext} {rest ops : List ROp} {w : Option Nat} {op : IOp} {nid m : Nat} {v : AV} {fl fs : List Nat} {ds : List D} {d : D}
def drwC (lo : Lower) (tail : List ROp) (st : List AO) (ext : Option Ext) (r : Option (List AV × List AV × List AO × List Nat)) : Option (AExit × S) := match r with
  | none => none
  | some (env, vars, news, fs) => regC (envC (aOpsT lo fs tail env ⟨vars, st ++ news, ext⟩))
theorem drw_some : drwC lo rest st ext (some (env, vars, news, fs)) = regC (envC (aOpsT lo fs rest env ⟨vars, st ++ news, ext⟩)) := id rfl
theorem ac_draw : aCode lo cx (.region ops (some (m, fl))) ⟨vars, st, ext⟩ = drwC lo (ops.drop m) st ext (aQs lo st fl (ops.take m) [] vars [] []) := by
  simp only [aCode, aRegion, drwC]
  rcases aQs lo st fl (ops.take m) [] vars [] [] with _ | ⟨env, vars, news, fs⟩
  · rfl
  · simp only
    rcases aOpsT lo fs (ops.drop m) env ⟨vars, st ++ news, ext⟩ with _ | ⟨_, _⟩ <;> rfl
theorem qs_nil : aQs lo st fl [] env vars news fs = some (env, vars, news, fs) := id rfl
def nqC (lo : Lower) (st : List AO) (fl : List Nat) (rest : List ROp) (w : Option Nat) (op : IOp) (env vars : List AV) (news : List AO) (fs : List Nat) (r : Option (AV × List AO)) : Option (List AV × List AV × List AO × List Nat) := match r with
  | none => none
  | some (v, n1) => if fl.contains env.length && !n1.isEmpty then none else
        aQs lo st fl rest (env ++ [v]) (setW vars w v) (news ++ n1) (if fl.contains env.length then rIds vars env op ++ fs else fs)
theorem nq_nil : nqC lo st [] rest w op env vars news fs (some (v, n1)) = aQs lo st [] rest (env ++ [v]) (setW vars w v) (news ++ n1) fs := by
  simp [nqC]
theorem nq_out (h : fl.contains env.length = false) : nqC lo st fl rest w op env vars news fs (some (v, n1)) = aQs lo st fl rest (env ++ [v]) (setW vars w v) (news ++ n1) fs := by
  simp only [nqC, h, Bool.false_and, Bool.false_eq_true, if_false]
theorem nq_in (h : fl.contains env.length = true) : nqC lo st fl rest w op env vars news fs (some (v, [])) = aQs lo st fl rest (env ++ [v]) (setW vars w v) news (rIds vars env op ++ fs) := by
  simp only [nqC, h, List.isEmpty_nil, Bool.not_true, Bool.and_false, Bool.false_eq_true, if_false, if_true, List.append_nil]
theorem qs_op : aQs lo st fl (⟨w, none, op⟩ :: rest) env vars news fs = nqC lo st fl rest w op env vars news fs (aQ lo vars env st (st.length + news.length) op) := by
  simp only [aQs, wantG, nqC]
  rcases aQ lo vars env st (st.length + news.length) op with _ | ⟨_, _⟩ <;> rfl
theorem qs_do {j : Nat} {b : Bool} (h : env.getD j .junk = .imm (.bool b)) : aQs lo st fl (⟨w, some (j, b), op⟩ :: rest) env vars news fs = nqC lo st fl rest w op env vars news fs (aQ lo vars env st (st.length + news.length) op) := by
  simp only [aQs, wantG, h, nqC]
  cases b <;> simp only [] <;> rcases aQ lo vars env st (st.length + news.length) op with _ | ⟨_, _⟩ <;> rfl
theorem qs_tf {j : Nat} (h : env.getD j .junk = .imm (.bool true)) : aQs lo st fl (⟨w, some (j, false), op⟩ :: rest) env vars news fs = aQs lo st fl rest (env ++ [.imm (.tup [])]) (setW vars w (.imm (.tup []))) news fs := by
  simp only [aQs, wantG, h]
theorem qs_ft {j : Nat} (h : env.getD j .junk = .imm (.bool false)) : aQs lo st fl (⟨w, some (j, true), op⟩ :: rest) env vars news fs = aQs lo st fl rest (env ++ [.imm (.tup [])]) (setW vars w (.imm (.tup []))) news fs := by
  simp only [aQs, wantG, h]
theorem qs_no {j : Nat} {b : Bool} (h : env.getD j .junk = .imm (.tup [])) : aQs lo st fl (⟨w, some (j, b), op⟩ :: rest) env vars news fs = aQs lo st fl rest (env ++ [.imm (.tup [])]) (setW vars w (.imm (.tup []))) news fs := by
  simp only [aQs, wantG, h]
theorem apart_nil : ∀ a : List Nat, apartL a [] = true := by intro a; simp [apartL]
theorem ot_free : ∀ (ops : List ROp) (env : List AV) (s : S), aOpsT lo [] ops env s = aOps lo ops env s
  | [], env, s => rfl
  | r :: rest, env, s => by
    simp only [aOpsT, aOps, apart_nil, if_true]
    rcases wantG env r.g with _ | _ | _
    · rfl
    · exact ot_free rest _ _
    · simp only
      rcases aOp lo s.vars env s r.op with _ | ⟨_, _⟩
      · rfl
      · exact ot_free rest _ _
theorem ot_nil : aOpsT lo fs [] env s = some (env, s) := id rfl
def ntC (lo : Lower) (fs : List Nat) (rest : List ROp) (w : Option Nat) (env : List AV) (r : Option (AV × S)) : Option (List AV × S) :=
  match r with
  | some (v, s) => aOpsT lo fs rest (env ++ [v]) { s with vars := setW s.vars w v }
  | none => none
theorem nt_some : ntC lo fs rest w env (some (v, ⟨vars, st, ext⟩)) = aOpsT lo fs rest (env ++ [v]) ⟨setW vars w v, st, ext⟩ := id rfl
theorem ot_op (h : apartL (wIds vars env st op) fs = true) : aOpsT lo fs (⟨w, none, op⟩ :: rest) env ⟨vars, st, ext⟩ = ntC lo fs rest w env (aOp lo vars env ⟨vars, st, ext⟩ op) := by
  simp only [aOpsT, wantG, h, if_true, ntC]
  cases aOp lo vars env ⟨vars, st, ext⟩ op <;> rfl
theorem ot_do {j : Nat} {b : Bool} (hg : env.getD j .junk = .imm (.bool b)) (h : apartL (wIds vars env st op) fs = true) : aOpsT lo fs (⟨w, some (j, b), op⟩ :: rest) env ⟨vars, st, ext⟩ = ntC lo fs rest w env (aOp lo vars env ⟨vars, st, ext⟩ op) := by
  simp only [aOpsT, wantG, hg, h, if_true, ntC]
  cases b <;> simp only [] <;> cases aOp lo vars env ⟨vars, st, ext⟩ op <;> rfl
theorem ot_tf {j : Nat} (h : env.getD j .junk = .imm (.bool true)) : aOpsT lo fs (⟨w, some (j, false), op⟩ :: rest) env ⟨vars, st, ext⟩ = aOpsT lo fs rest (env ++ [.imm (.tup [])]) ⟨setW vars w (.imm (.tup [])), st, ext⟩ := by
  simp only [aOpsT, wantG, h]
theorem ot_ft {j : Nat} (h : env.getD j .junk = .imm (.bool false)) : aOpsT lo fs (⟨w, some (j, true), op⟩ :: rest) env ⟨vars, st, ext⟩ = aOpsT lo fs rest (env ++ [.imm (.tup [])]) ⟨setW vars w (.imm (.tup [])), st, ext⟩ := by
  simp only [aOpsT, wantG, h]
theorem ot_no {j : Nat} {b : Bool} (h : env.getD j .junk = .imm (.tup [])) : aOpsT lo fs (⟨w, some (j, b), op⟩ :: rest) env ⟨vars, st, ext⟩ = aOpsT lo fs rest (env ++ [.imm (.tup [])]) ⟨setW vars w (.imm (.tup [])), st, ext⟩ := by
  simp only [aOpsT, wantG, h]
def kpC (st : List AO) (is : List Nat) (r : Option D) : Option (AV × List AO) := match r with
  | some d => if isFrz st is || flatD d then some (.imm d, []) else none
  | none => none
theorem kp_some {is : List Nat} (h : (isFrz st is || flatD d) = true) : kpC st is (some d) = some (.imm d, []) := by simp only [kpC, h, if_true]
def kdC (lo : Lower) (f : FuncId) (st : List AO) (is : List Nat) (r : Option (List D)) : Option (AV × List AO) := match r with | none => none | some ds => kpC st is (callP lo f ds)
theorem kd_some {f : FuncId} {is : List Nat} : kdC lo f st is (some ds) = kpC st is (callP lo f ds) := id rfl
def kfC (lo : Lower) (st : List AO) (vs : List AV) (r : Option (FuncId × List AV × List AV)) : Option (AV × List AO) := match r with
  | none => none
  | some (f, a, b) => kdC lo f st (idsL (a ++ vs ++ b)) (deepL st (a ++ vs ++ b))
theorem kf_some {f : FuncId} {p q : List AV} : kfC lo st vs (some (f, p, q)) = kdC lo f st (idsL (p ++ vs ++ q)) (deepL st (p ++ vs ++ q)) := id rfl
theorem q_callP' {f : Opnd} {args : List Opnd} : aQ lo vars env st nid (.call .pure f args) = kfC lo st (opnds vars env args) (fnOf (opnd vars env f)) := by
  simp only [aQ, kfC, kdC, kpC]
  rcases fnOf (opnd vars env f) with _ | ⟨f, a, b⟩
  · rfl
  · simp only
    rcases deepL st (a ++ opnds vars env args ++ b) with _ | ds
    · rfl
    · simp only
      rcases callP lo f ds <;> rfl
def jpC (nid : Nat) (st : List AO) (is : List Nat) (r : Option (AV × List AO)) : Option (AV × List AO) := match r with
  | some r => if isFrz st is || (flatV r.1 && flatOL r.2) then some (ren (shiftM nid) r.1, r.2.map (renO (shiftM nid))) else none
  | none => none
theorem jp_some {is : List Nat} (h : (isFrz st is || (flatV v && flatOL n1)) = true) : jpC nid st is (some (v, n1)) = some (ren (shiftM nid) v, n1.map (renO (shiftM nid))) := by simp only [jpC, h, if_true]
def jdC (lo : Lower) (nid : Nat) (f : FuncId) (st : List AO) (is : List Nat) (r : Option (List D)) : Option (AV × List AO) := match r with | none => none | some ds => jpC nid st is (callI lo f ds)
theorem jd_some {f : FuncId} {is : List Nat} : jdC lo nid f st is (some ds) = jpC nid st is (callI lo f ds) := id rfl
def jfC (lo : Lower) (nid : Nat) (st : List AO) (vs : List AV) (r : Option (FuncId × List AV × List AV)) : Option (AV × List AO) := match r with
  | none => none
  | some (f, a, b) => jdC lo nid f st (idsL (a ++ vs ++ b)) (deepL st (a ++ vs ++ b))
theorem jf_some {f : FuncId} {p q : List AV} : jfC lo nid st vs (some (f, p, q)) = jdC lo nid f st (idsL (p ++ vs ++ q)) (deepL st (p ++ vs ++ q)) := id rfl
theorem q_callI' {f : Opnd} {args : List Opnd} : aQ lo vars env st nid (.call .imp f args) = jfC lo nid st (opnds vars env args) (fnOf (opnd vars env f)) := by
  simp only [aQ, jfC, jdC, jpC]
  rcases fnOf (opnd vars env f) with _ | ⟨f, a, b⟩
  · rfl
  · simp only
    rcases deepL st (a ++ opnds vars env args ++ b) with _ | ds
    · rfl
    · simp only
      rcases callI lo f ds <;> rfl
theorem dL_map : ∀ ds : List D, deepL st (ds.map .imm) = some ds
  | [] => by simp [deepL]
  | d :: ds => by simp [deepL, deep, dL_map ds]
theorem iL_map : ∀ ds : List D, idsL (ds.map .imm) = []
  | [] => by simp [idsL]
  | d :: ds => by simp [idsL, ids, iL_map ds]
theorem ds_map' : ∀ ds : List D, dsOf (ds.map .imm) = some ds := dsOf_map'
theorem nil_slD {b : Bool} {sz : Nat} {es : List (List D)} : aEq .nilsl (.imm (slD b sz es)) (.imm .nil) = some (b && es.isEmpty) := by cases b <;> cases es <;> rfl
theorem nil_nil : aEq .nilsl (.imm .nil) (.imm .nil) = some true := id rfl
theorem nil_sl {sz : Nat} {es : List (List D)} : aEq .nilsl (.imm (.sl sz es)) (.imm .nil) = some false := id rfl
theorem nil_ref {id sz lw n : Nat} : aEq .nilsl (.ref id sz lw n) (.imm .nil) = some false := _root_.id rfl
theorem nil_e0 {sz : Nat} : aEq .nilsl (.e0 sz) (.imm .nil) = some false := _root_.id rfl
def gkC (vs : List AV) (st : List AO) (l : List Nat) : List AV × List AO := (renL (idx l) vs, pickSt (idx l) l st)
theorem gc_go {n : Nat} : gc n vs st = gkC vs st (keepIds n (idsL vs) st) := id rfl
theorem gk_eq {l : List Nat} : gkC vs st l = (renL (idx l) vs, pickSt (idx l) l st) := id rfl
theorem tk_map {α β : Type} {f : α → β} {l : List α} : List.take l.length (l.map f) = l.map f := by rw [← List.length_map (f := f)]; exact List.take_length
def yeC (vars : List AV) (st : List AO) (r : Option (Ext × Bool)) : Option (AV × S) := match r with | some (e', b) => some (.imm (.bool b), ⟨vars, st, some e'⟩) | none => none
theorem ye_some {e : Ext} {b : Bool} : yeC vars st (some (e, b)) = some (.imm (.bool b), ⟨vars, st, some e⟩) := id rfl
def ydC (lo : Lower) (vars : List AV) (st : List AO) (e : Ext) (r : Option (List D)) : Option (AV × S) := match r with | some ds => yeC vars st (lo.round e ds) | none => none
theorem yd_some {e : Ext} : ydC lo vars st e (some ds) = yeC vars st (lo.round e ds) := id rfl
theorem op_yield {md : Mode} {f : Opnd} {args : List Opnd} {e : Ext} (h : opnd vars env f = .yield) : aOp lo vars env ⟨vars, st, some e⟩ (.call md f args) = ydC lo vars st e (dsOf (opnds vars env args)) := by
  simp only [aOp, aCall, h, ydC, yeC]
  cases dsOf (opnds vars env args) with
  | none => rfl
  | some ds => cases hr : lo.round e ds <;> rfl
theorem wl1 : wrp .i64 (0 + 1) = 1 := by decide
theorem wl2 : wrp .i64 (1 + 1) = 2 := by decide
theorem wl3 : wrp .i64 (2 + 1) = 3 := by decide
theorem ag_imm : aggOf (.imm (.agg ds)) = some (ds.map .imm) := id rfl
theorem ag_agg : aggOf (.agg vs) = some vs := id rfl
def rfE (r : Option (AV × List AO × Option Ext)) : Option (AExit × S) := match r with | some (_, _, some e) => some (e.pend.getD .normal, ⟨e.vars, e.st, none⟩) | _ => none
theorem rfE_some {v : AV} {ps : List Nat} {a b : IR} {nb : Nat} {st2 : List AO} {pe : Option AExit} : rfE (some (v, st, some ⟨ps, a, b, vars, st2, nb, pe⟩)) = some (pe.getD .normal, ⟨vars, st2, none⟩) := id rfl
def rfV (lo : Lower) (ps : List Nat) (a b : IR) (vars : List AV) (st : List AO) (nb : Nat) (v : AV) : Option (AExit × S) := match v with
  | .imm (.fn g x y) => rfE (lo.call g (x.map .imm ++ [.yield] ++ y.map .imm) [] (some ⟨ps, a, b, vars, st, nb, none⟩))
  | _ => none
theorem rfV_fn {ps : List Nat} {a b : IR} {nb : Nat} {g : FuncId} {x y : List D} : rfV lo ps a b vars st nb (.imm (.fn g x y)) = rfE (lo.call g (x.map .imm ++ [.yield] ++ y.map .imm) [] (some ⟨ps, a, b, vars, st, nb, none⟩)) := id rfl
theorem ac_rfunc {nb i : Nat} {ps : List Nat} {a b : IR} : aCode lo ⟨nb, false⟩ (.rfunc (.var i) ps a b) ⟨vars, st, none⟩ = rfV lo ps a b vars st nb (vars.getD i .junk) := by
  simp only [aCode, opnd, Bool.false_eq_true, Option.isSome_none, or_self, if_false, rfV]
  cases vars.getD i .junk with
  | imm d =>
    cases d with
    | fn g x y =>
      simp only [rfE]
      rcases lo.call g (x.map .imm ++ [.yield] ++ y.map .imm) [] (some ⟨ps, a, b, vars, st, nb, none⟩) with _ | ⟨_, _, _ | _⟩ <;> rfl
    | _ => rfl
  | _ => rfl
theorem call_go {E : Env} {n : Nat} {f : FuncId} {fn : IFn} {as : List AV} {c : IR} {r : List RV} {vars : List AV} (h : E.fn f = some fn) (h1 : fn.body = c) (h2 : fn.res = r) (h3 : decide (fn.np < as.length) = false) (h4 : as ++ List.replicate (fn.nv - as.length) .junk = vars) :
    (level E (n + 1)).call f as st ext = fin r (aCode (level E n) ⟨st.length, false⟩ c ⟨vars, st, ext⟩) := by
  simp only [level, h]
  rw [run_eq h3, h1, h2, h4]
def roB (e : Ext) (r : Option (AExit × S)) : Option (Ext × Bool) := match r with
  | some (x, s2) => some ({ e with vars := (gc e.nb e.vars s2.st).1, st := (gc e.nb e.vars s2.st).2, pend := if x = .normal then none else some x }, decide (x = .normal))
  | none => none
noncomputable def roA (lo : Lower) (e : Ext) (r : Option (AExit × S)) : Option (Ext × Bool) := match r with
  | some (.normal, s1) => roB e (aCode lo ⟨e.st.length, true⟩ e.body s1)
  | _ => none
theorem roB_n {ps : List Nat} {a b : IR} {nb : Nat} {vs0 : List AV} {st0 : List AO} : roB ⟨ps, a, b, vs0, st0, nb, none⟩ (some (.normal, ⟨vars, st, ext⟩)) = some (⟨ps, a, b, (gc nb vs0 st).1, (gc nb vs0 st).2, nb, none⟩, true) := id rfl
theorem roB_r {ps : List Nat} {a b : IR} {nb : Nat} {vs0 : List AV} {st0 : List AO} : roB ⟨ps, a, b, vs0, st0, nb, none⟩ (some (.ret, ⟨vars, st, ext⟩)) = some (⟨ps, a, b, (gc nb vs0 st).1, (gc nb vs0 st).2, nb, some .ret⟩, false) := id rfl
theorem roB_e {ps : List Nat} {a b : IR} {nb i : Nat} {vs0 : List AV} {st0 : List AO} : roB ⟨ps, a, b, vs0, st0, nb, none⟩ (some (.exit i, ⟨vars, st, ext⟩)) = some (⟨ps, a, b, (gc nb vs0 st).1, (gc nb vs0 st).2, nb, some (.exit i)⟩, false) := id rfl
theorem roA_n {ps : List Nat} {a b : IR} {nb : Nat} {vs0 : List AV} {st0 : List AO} {s1 : S} : roA lo ⟨ps, a, b, vs0, st0, nb, none⟩ (some (.normal, s1)) = roB ⟨ps, a, b, vs0, st0, nb, none⟩ (aCode lo ⟨st0.length, true⟩ b s1) := id rfl
theorem round_go {E : Env} {n : Nat} {ps : List Nat} {a b : IR} {nb : Nat} (h : (ds.length == ps.length) = true) : (level E (n + 1)).round ⟨ps, a, b, vars, st, nb, none⟩ ds = roA (level E n) ⟨ps, a, b, vars, st, nb, none⟩ (aCode (level E n) ⟨st.length, true⟩ a ⟨setPs vars ps ds, st, none⟩) := by
  have h' : ds.length = ps.length := by simpa using h
  simp only [level, runRound, h', ne_eq, not_true_eq_false, if_false, roA, roB]
  rcases aCode (level E n) ⟨st.length, true⟩ a ⟨setPs vars ps ds, st, none⟩ with _ | ⟨_ | _ | _, _⟩ <;> rfl
theorem sp_cons {p : Nat} {ps : List Nat} : setPs vars (p :: ps) (d :: ds) = setPs (vars.set p (.imm d)) ps ds := id rfl
theorem sp_nil : setPs vars [] [] = vars := id rfl
theorem cast0 : ((0 : Nat) : Int) = 0 := id rfl
end
theorem rci1000 {i : Nat} {acc todo : List Nat} {st : List AO} (h : acc.contains i = true) : reach st 1000 acc (i :: todo) = reach st 999 acc todo := rc_in h
theorem rco1000 {i : Nat} {acc todo : List Nat} {st : List AO} (h : acc.contains i = false) : reach st 1000 acc (i :: todo) = reach st 999 (acc ++ [i]) (todo ++ aoIds (st.getD i .dead)) := rc_out h
theorem rci999 {i : Nat} {acc todo : List Nat} {st : List AO} (h : acc.contains i = true) : reach st 999 acc (i :: todo) = reach st 998 acc todo := rc_in h
theorem rco999 {i : Nat} {acc todo : List Nat} {st : List AO} (h : acc.contains i = false) : reach st 999 acc (i :: todo) = reach st 998 (acc ++ [i]) (todo ++ aoIds (st.getD i .dead)) := rc_out h
theorem rci998 {i : Nat} {acc todo : List Nat} {st : List AO} (h : acc.contains i = true) : reach st 998 acc (i :: todo) = reach st 997 acc todo := rc_in h
theorem rco998 {i : Nat} {acc todo : List Nat} {st : List AO} (h : acc.contains i = false) : reach st 998 acc (i :: todo) = reach st 997 (acc ++ [i]) (todo ++ aoIds (st.getD i .dead)) := rc_out h
theorem rci997 {i : Nat} {acc todo : List Nat} {st : List AO} (h : acc.contains i = true) : reach st 997 acc (i :: todo) = reach st 996 acc todo := rc_in h
theorem rco997 {i : Nat} {acc todo : List Nat} {st : List AO} (h : acc.contains i = false) : reach st 997 acc (i :: todo) = reach st 996 (acc ++ [i]) (todo ++ aoIds (st.getD i .dead)) := rc_out h
theorem rci996 {i : Nat} {acc todo : List Nat} {st : List AO} (h : acc.contains i = true) : reach st 996 acc (i :: todo) = reach st 995 acc todo := rc_in h
theorem rco996 {i : Nat} {acc todo : List Nat} {st : List AO} (h : acc.contains i = false) : reach st 996 acc (i :: todo) = reach st 995 (acc ++ [i]) (todo ++ aoIds (st.getD i .dead)) := rc_out h
theorem rci995 {i : Nat} {acc todo : List Nat} {st : List AO} (h : acc.contains i = true) : reach st 995 acc (i :: todo) = reach st 994 acc todo := rc_in h
theorem rco995 {i : Nat} {acc todo : List Nat} {st : List AO} (h : acc.contains i = false) : reach st 995 acc (i :: todo) = reach st 994 (acc ++ [i]) (todo ++ aoIds (st.getD i .dead)) := rc_out h
theorem rci994 {i : Nat} {acc todo : List Nat} {st : List AO} (h : acc.contains i = true) : reach st 994 acc (i :: todo) = reach st 993 acc todo := rc_in h
theorem rco994 {i : Nat} {acc todo : List Nat} {st : List AO} (h : acc.contains i = false) : reach st 994 acc (i :: todo) = reach st 993 (acc ++ [i]) (todo ++ aoIds (st.getD i .dead)) := rc_out h
theorem rci993 {i : Nat} {acc todo : List Nat} {st : List AO} (h : acc.contains i = true) : reach st 993 acc (i :: todo) = reach st 992 acc todo := rc_in h
theorem rco993 {i : Nat} {acc todo : List Nat} {st : List AO} (h : acc.contains i = false) : reach st 993 acc (i :: todo) = reach st 992 (acc ++ [i]) (todo ++ aoIds (st.getD i .dead)) := rc_out h
theorem rci992 {i : Nat} {acc todo : List Nat} {st : List AO} (h : acc.contains i = true) : reach st 992 acc (i :: todo) = reach st 991 acc todo := rc_in h
theorem rco992 {i : Nat} {acc todo : List Nat} {st : List AO} (h : acc.contains i = false) : reach st 992 acc (i :: todo) = reach st 991 (acc ++ [i]) (todo ++ aoIds (st.getD i .dead)) := rc_out h
theorem rci991 {i : Nat} {acc todo : List Nat} {st : List AO} (h : acc.contains i = true) : reach st 991 acc (i :: todo) = reach st 990 acc todo := rc_in h
theorem rco991 {i : Nat} {acc todo : List Nat} {st : List AO} (h : acc.contains i = false) : reach st 991 acc (i :: todo) = reach st 990 (acc ++ [i]) (todo ++ aoIds (st.getD i .dead)) := rc_out h
theorem rci990 {i : Nat} {acc todo : List Nat} {st : List AO} (h : acc.contains i = true) : reach st 990 acc (i :: todo) = reach st 989 acc todo := rc_in h
theorem rco990 {i : Nat} {acc todo : List Nat} {st : List AO} (h : acc.contains i = false) : reach st 990 acc (i :: todo) = reach st 989 (acc ++ [i]) (todo ++ aoIds (st.getD i .dead)) := rc_out h
theorem rci989 {i : Nat} {acc todo : List Nat} {st : List AO} (h : acc.contains i = true) : reach st 989 acc (i :: todo) = reach st 988 acc todo := rc_in h
theorem rco989 {i : Nat} {acc todo : List Nat} {st : List AO} (h : acc.contains i = false) : reach st 989 acc (i :: todo) = reach st 988 (acc ++ [i]) (todo ++ aoIds (st.getD i .dead)) := rc_out h
theorem rci988 {i : Nat} {acc todo : List Nat} {st : List AO} (h : acc.contains i = true) : reach st 988 acc (i :: todo) = reach st 987 acc todo := rc_in h
theorem rco988 {i : Nat} {acc todo : List Nat} {st : List AO} (h : acc.contains i = false) : reach st 988 acc (i :: todo) = reach st 987 (acc ++ [i]) (todo ++ aoIds (st.getD i .dead)) := rc_out h
theorem rci987 {i : Nat} {acc todo : List Nat} {st : List AO} (h : acc.contains i = true) : reach st 987 acc (i :: todo) = reach st 986 acc todo := rc_in h
theorem rco987 {i : Nat} {acc todo : List Nat} {st : List AO} (h : acc.contains i = false) : reach st 987 acc (i :: todo) = reach st 986 (acc ++ [i]) (todo ++ aoIds (st.getD i .dead)) := rc_out h
theorem rci986 {i : Nat} {acc todo : List Nat} {st : List AO} (h : acc.contains i = true) : reach st 986 acc (i :: todo) = reach st 985 acc todo := rc_in h
theorem rco986 {i : Nat} {acc todo : List Nat} {st : List AO} (h : acc.contains i = false) : reach st 986 acc (i :: todo) = reach st 985 (acc ++ [i]) (todo ++ aoIds (st.getD i .dead)) := rc_out h
theorem rci985 {i : Nat} {acc todo : List Nat} {st : List AO} (h : acc.contains i = true) : reach st 985 acc (i :: todo) = reach st 984 acc todo := rc_in h
theorem rco985 {i : Nat} {acc todo : List Nat} {st : List AO} (h : acc.contains i = false) : reach st 985 acc (i :: todo) = reach st 984 (acc ++ [i]) (todo ++ aoIds (st.getD i .dead)) := rc_out h
theorem rci984 {i : Nat} {acc todo : List Nat} {st : List AO} (h : acc.contains i = true) : reach st 984 acc (i :: todo) = reach st 983 acc todo := rc_in h
theorem rco984 {i : Nat} {acc todo : List Nat} {st : List AO} (h : acc.contains i = false) : reach st 984 acc (i :: todo) = reach st 983 (acc ++ [i]) (todo ++ aoIds (st.getD i .dead)) := rc_out h
theorem rci983 {i : Nat} {acc todo : List Nat} {st : List AO} (h : acc.contains i = true) : reach st 983 acc (i :: todo) = reach st 982 acc todo := rc_in h
theorem rco983 {i : Nat} {acc todo : List Nat} {st : List AO} (h : acc.contains i = false) : reach st 983 acc (i :: todo) = reach st 982 (acc ++ [i]) (todo ++ aoIds (st.getD i .dead)) := rc_out h
theorem rci982 {i : Nat} {acc todo : List Nat} {st : List AO} (h : acc.contains i = true) : reach st 982 acc (i :: todo) = reach st 981 acc todo := rc_in h
theorem rco982 {i : Nat} {acc todo : List Nat} {st : List AO} (h : acc.contains i = false) : reach st 982 acc (i :: todo) = reach st 981 (acc ++ [i]) (todo ++ aoIds (st.getD i .dead)) := rc_out h
theorem rci981 {i : Nat} {acc todo : List Nat} {st : List AO} (h : acc.contains i = true) : reach st 981 acc (i :: todo) = reach st 980 acc todo := rc_in h
theorem rco981 {i : Nat} {acc todo : List Nat} {st : List AO} (h : acc.contains i = false) : reach st 981 acc (i :: todo) = reach st 980 (acc ++ [i]) (todo ++ aoIds (st.getD i .dead)) := rc_out h
theorem rci980 {i : Nat} {acc todo : List Nat} {st : List AO} (h : acc.contains i = true) : reach st 980 acc (i :: todo) = reach st 979 acc todo := rc_in h
theorem rco980 {i : Nat} {acc todo : List Nat} {st : List AO} (h : acc.contains i = false) : reach st 980 acc (i :: todo) = reach st 979 (acc ++ [i]) (todo ++ aoIds (st.getD i .dead)) := rc_out h
theorem rci979 {i : Nat} {acc todo : List Nat} {st : List AO} (h : acc.contains i = true) : reach st 979 acc (i :: todo) = reach st 978 acc todo := rc_in h
theorem rco979 {i : Nat} {acc todo : List Nat} {st : List AO} (h : acc.contains i = false) : reach st 979 acc (i :: todo) = reach st 978 (acc ++ [i]) (todo ++ aoIds (st.getD i .dead)) := rc_out h
theorem rci978 {i : Nat} {acc todo : List Nat} {st : List AO} (h : acc.contains i = true) : reach st 978 acc (i :: todo) = reach st 977 acc todo := rc_in h
theorem rco978 {i : Nat} {acc todo : List Nat} {st : List AO} (h : acc.contains i = false) : reach st 978 acc (i :: todo) = reach st 977 (acc ++ [i]) (todo ++ aoIds (st.getD i .dead)) := rc_out h
theorem rci977 {i : Nat} {acc todo : List Nat} {st : List AO} (h : acc.contains i = true) : reach st 977 acc (i :: todo) = reach st 976 acc todo := rc_in h
theorem rco977 {i : Nat} {acc todo : List Nat} {st : List AO} (h : acc.contains i = false) : reach st 977 acc (i :: todo) = reach st 976 (acc ++ [i]) (todo ++ aoIds (st.getD i .dead)) := rc_out h
theorem rci976 {i : Nat} {acc todo : List Nat} {st : List AO} (h : acc.contains i = true) : reach st 976 acc (i :: todo) = reach st 975 acc todo := rc_in h
theorem rco976 {i : Nat} {acc todo : List Nat} {st : List AO} (h : acc.contains i = false) : reach st 976 acc (i :: todo) = reach st 975 (acc ++ [i]) (todo ++ aoIds (st.getD i .dead)) := rc_out h
theorem rci975 {i : Nat} {acc todo : List Nat} {st : List AO} (h : acc.contains i = true) : reach st 975 acc (i :: todo) = reach st 974 acc todo := rc_in h
theorem rco975 {i : Nat} {acc todo : List Nat} {st : List AO} (h : acc.contains i = false) : reach st 975 acc (i :: todo) = reach st 974 (acc ++ [i]) (todo ++ aoIds (st.getD i .dead)) := rc_out h
theorem rci974 {i : Nat} {acc todo : List Nat} {st : List AO} (h : acc.contains i = true) : reach st 974 acc (i :: todo) = reach st 973 acc todo := rc_in h
theorem rco974 {i : Nat} {acc todo : List Nat} {st : List AO} (h : acc.contains i = false) : reach st 974 acc (i :: todo) = reach st 973 (acc ++ [i]) (todo ++ aoIds (st.getD i .dead)) := rc_out h
theorem rci973 {i : Nat} {acc todo : List Nat} {st : List AO} (h : acc.contains i = true) : reach st 973 acc (i :: todo) = reach st 972 acc todo := rc_in h
theorem rco973 {i : Nat} {acc todo : List Nat} {st : List AO} (h : acc.contains i = false) : reach st 973 acc (i :: todo) = reach st 972 (acc ++ [i]) (todo ++ aoIds (st.getD i .dead)) := rc_out h
theorem rci972 {i : Nat} {acc todo : List Nat} {st : List AO} (h : acc.contains i = true) : reach st 972 acc (i :: todo) = reach st 971 acc todo := rc_in h
theorem rco972 {i : Nat} {acc todo : List Nat} {st : List AO} (h : acc.contains i = false) : reach st 972 acc (i :: todo) = reach st 971 (acc ++ [i]) (todo ++ aoIds (st.getD i .dead)) := rc_out h
theorem rci971 {i : Nat} {acc todo : List Nat} {st : List AO} (h : acc.contains i = true) : reach st 971 acc (i :: todo) = reach st 970 acc todo := rc_in h
theorem rco971 {i : Nat} {acc todo : List Nat} {st : List AO} (h : acc.contains i = false) : reach st 971 acc (i :: todo) = reach st 970 (acc ++ [i]) (todo ++ aoIds (st.getD i .dead)) := rc_out h
theorem rci970 {i : Nat} {acc todo : List Nat} {st : List AO} (h : acc.contains i = true) : reach st 970 acc (i :: todo) = reach st 969 acc todo := rc_in h
theorem rco970 {i : Nat} {acc todo : List Nat} {st : List AO} (h : acc.contains i = false) : reach st 970 acc (i :: todo) = reach st 969 (acc ++ [i]) (todo ++ aoIds (st.getD i .dead)) := rc_out h
theorem rci969 {i : Nat} {acc todo : List Nat} {st : List AO} (h : acc.contains i = true) : reach st 969 acc (i :: todo) = reach st 968 acc todo := rc_in h
theorem rco969 {i : Nat} {acc todo : List Nat} {st : List AO} (h : acc.contains i = false) : reach st 969 acc (i :: todo) = reach st 968 (acc ++ [i]) (todo ++ aoIds (st.getD i .dead)) := rc_out h
theorem rci968 {i : Nat} {acc todo : List Nat} {st : List AO} (h : acc.contains i = true) : reach st 968 acc (i :: todo) = reach st 967 acc todo := rc_in h
theorem rco968 {i : Nat} {acc todo : List Nat} {st : List AO} (h : acc.contains i = false) : reach st 968 acc (i :: todo) = reach st 967 (acc ++ [i]) (todo ++ aoIds (st.getD i .dead)) := rc_out h
theorem rci967 {i : Nat} {acc todo : List Nat} {st : List AO} (h : acc.contains i = true) : reach st 967 acc (i :: todo) = reach st 966 acc todo := rc_in h
theorem rco967 {i : Nat} {acc todo : List Nat} {st : List AO} (h : acc.contains i = false) : reach st 967 acc (i :: todo) = reach st 966 (acc ++ [i]) (todo ++ aoIds (st.getD i .dead)) := rc_out h
theorem rci966 {i : Nat} {acc todo : List Nat} {st : List AO} (h : acc.contains i = true) : reach st 966 acc (i :: todo) = reach st 965 acc todo := rc_in h
theorem rco966 {i : Nat} {acc todo : List Nat} {st : List AO} (h : acc.contains i = false) : reach st 966 acc (i :: todo) = reach st 965 (acc ++ [i]) (todo ++ aoIds (st.getD i .dead)) := rc_out h
theorem rci965 {i : Nat} {acc todo : List Nat} {st : List AO} (h : acc.contains i = true) : reach st 965 acc (i :: todo) = reach st 964 acc todo := rc_in h
theorem rco965 {i : Nat} {acc todo : List Nat} {st : List AO} (h : acc.contains i = false) : reach st 965 acc (i :: todo) = reach st 964 (acc ++ [i]) (todo ++ aoIds (st.getD i .dead)) := rc_out h
theorem rci964 {i : Nat} {acc todo : List Nat} {st : List AO} (h : acc.contains i = true) : reach st 964 acc (i :: todo) = reach st 963 acc todo := rc_in h
theorem rco964 {i : Nat} {acc todo : List Nat} {st : List AO} (h : acc.contains i = false) : reach st 964 acc (i :: todo) = reach st 963 (acc ++ [i]) (todo ++ aoIds (st.getD i .dead)) := rc_out h
theorem rci963 {i : Nat} {acc todo : List Nat} {st : List AO} (h : acc.contains i = true) : reach st 963 acc (i :: todo) = reach st 962 acc todo := rc_in h
theorem rco963 {i : Nat} {acc todo : List Nat} {st : List AO} (h : acc.contains i = false) : reach st 963 acc (i :: todo) = reach st 962 (acc ++ [i]) (todo ++ aoIds (st.getD i .dead)) := rc_out h
theorem rci962 {i : Nat} {acc todo : List Nat} {st : List AO} (h : acc.contains i = true) : reach st 962 acc (i :: todo) = reach st 961 acc todo := rc_in h
theorem rco962 {i : Nat} {acc todo : List Nat} {st : List AO} (h : acc.contains i = false) : reach st 962 acc (i :: todo) = reach st 961 (acc ++ [i]) (todo ++ aoIds (st.getD i .dead)) := rc_out h
theorem rci961 {i : Nat} {acc todo : List Nat} {st : List AO} (h : acc.contains i = true) : reach st 961 acc (i :: todo) = reach st 960 acc todo := rc_in h
theorem rco961 {i : Nat} {acc todo : List Nat} {st : List AO} (h : acc.contains i = false) : reach st 961 acc (i :: todo) = reach st 960 (acc ++ [i]) (todo ++ aoIds (st.getD i .dead)) := rc_out h
theorem rci960 {i : Nat} {acc todo : List Nat} {st : List AO} (h : acc.contains i = true) : reach st 960 acc (i :: todo) = reach st 959 acc todo := rc_in h
theorem rco960 {i : Nat} {acc todo : List Nat} {st : List AO} (h : acc.contains i = false) : reach st 960 acc (i :: todo) = reach st 959 (acc ++ [i]) (todo ++ aoIds (st.getD i .dead)) := rc_out h
theorem rci959 {i : Nat} {acc todo : List Nat} {st : List AO} (h : acc.contains i = true) : reach st 959 acc (i :: todo) = reach st 958 acc todo := rc_in h
theorem rco959 {i : Nat} {acc todo : List Nat} {st : List AO} (h : acc.contains i = false) : reach st 959 acc (i :: todo) = reach st 958 (acc ++ [i]) (todo ++ aoIds (st.getD i .dead)) := rc_out h
theorem rci958 {i : Nat} {acc todo : List Nat} {st : List AO} (h : acc.contains i = true) : reach st 958 acc (i :: todo) = reach st 957 acc todo := rc_in h
theorem rco958 {i : Nat} {acc todo : List Nat} {st : List AO} (h : acc.contains i = false) : reach st 958 acc (i :: todo) = reach st 957 (acc ++ [i]) (todo ++ aoIds (st.getD i .dead)) := rc_out h
theorem rci957 {i : Nat} {acc todo : List Nat} {st : List AO} (h : acc.contains i = true) : reach st 957 acc (i :: todo) = reach st 956 acc todo := rc_in h
theorem rco957 {i : Nat} {acc todo : List Nat} {st : List AO} (h : acc.contains i = false) : reach st 957 acc (i :: todo) = reach st 956 (acc ++ [i]) (todo ++ aoIds (st.getD i .dead)) := rc_out h
theorem rci956 {i : Nat} {acc todo : List Nat} {st : List AO} (h : acc.contains i = true) : reach st 956 acc (i :: todo) = reach st 955 acc todo := rc_in h
theorem rco956 {i : Nat} {acc todo : List Nat} {st : List AO} (h : acc.contains i = false) : reach st 956 acc (i :: todo) = reach st 955 (acc ++ [i]) (todo ++ aoIds (st.getD i .dead)) := rc_out h
theorem rci955 {i : Nat} {acc todo : List Nat} {st : List AO} (h : acc.contains i = true) : reach st 955 acc (i :: todo) = reach st 954 acc todo := rc_in h
theorem rco955 {i : Nat} {acc todo : List Nat} {st : List AO} (h : acc.contains i = false) : reach st 955 acc (i :: todo) = reach st 954 (acc ++ [i]) (todo ++ aoIds (st.getD i .dead)) := rc_out h
theorem rci954 {i : Nat} {acc todo : List Nat} {st : List AO} (h : acc.contains i = true) : reach st 954 acc (i :: todo) = reach st 953 acc todo := rc_in h
theorem rco954 {i : Nat} {acc todo : List Nat} {st : List AO} (h : acc.contains i = false) : reach st 954 acc (i :: todo) = reach st 953 (acc ++ [i]) (todo ++ aoIds (st.getD i .dead)) := rc_out h
theorem rci953 {i : Nat} {acc todo : List Nat} {st : List AO} (h : acc.contains i = true) : reach st 953 acc (i :: todo) = reach st 952 acc todo := rc_in h
theorem rco953 {i : Nat} {acc todo : List Nat} {st : List AO} (h : acc.contains i = false) : reach st 953 acc (i :: todo) = reach st 952 (acc ++ [i]) (todo ++ aoIds (st.getD i .dead)) := rc_out h
theorem rci952 {i : Nat} {acc todo : List Nat} {st : List AO} (h : acc.contains i = true) : reach st 952 acc (i :: todo) = reach st 951 acc todo := rc_in h
theorem rco952 {i : Nat} {acc todo : List Nat} {st : List AO} (h : acc.contains i = false) : reach st 952 acc (i :: todo) = reach st 951 (acc ++ [i]) (todo ++ aoIds (st.getD i .dead)) := rc_out h
theorem rci951 {i : Nat} {acc todo : List Nat} {st : List AO} (h : acc.contains i = true) : reach st 951 acc (i :: todo) = reach st 950 acc todo := rc_in h
theorem rco951 {i : Nat} {acc todo : List Nat} {st : List AO} (h : acc.contains i = false) : reach st 951 acc (i :: todo) = reach st 950 (acc ++ [i]) (todo ++ aoIds (st.getD i .dead)) := rc_out h
theorem ct_nil {i : Nat} : ([] : List Nat).contains i = false := id rfl
theorem ct_cons {a i : Nat} {l : List Nat} : (a :: l).contains i = ((i == a) || l.contains i) := List.contains_cons
attribute [go_sem] ct_nil ct_cons rci1000 rco1000 rci999 rco999 rci998 rco998 rci997 rco997 rci996 rco996 rci995 rco995 rci994 rco994 rci993 rco993 rci992 rco992 rci991 rco991 rci990 rco990 rci989 rco989 rci988 rco988 rci987 rco987 rci986 rco986 rci985 rco985 rci984 rco984 rci983 rco983 rci982 rco982 rci981 rco981 rci980 rco980 rci979 rco979 rci978 rco978 rci977 rco977 rci976 rco976 rci975 rco975 rci974 rco974 rci973 rco973 rci972 rco972 rci971 rco971 rci970 rco970 rci969 rco969 rci968 rco968 rci967 rco967 rci966 rco966 rci965 rco965 rci964 rco964 rci963 rco963 rci962 rco962 rci961 rco961 rci960 rco960 rci959 rco959 rci958 rco958 rci957 rco957 rci956 rco956 rci955 rco955 rci954 rco954 rci953 rco953 rci952 rco952 rci951 rco951
attribute [go_sem] rIds wIds apartL Nat.add_zero Bool.false_eq_true rfE_some rfV_fn ac_rfunc roB_n roB_r roB_e roA_n sp_cons sp_nil Option.getD_some Option.getD_none ag_imm ag_agg ye_some yd_some op_yield wl1 wl2 wl3 Nat.zero_add Nat.le_refl List.take_of_length_le tk_map cast0 gc_go gk_eq drw_some ac_draw qs_nil nq_nil nq_out nq_in qs_op qs_do qs_tf qs_ft qs_no ot_free ot_nil nt_some ot_op ot_do ot_tf ot_ft ot_no kp_some kd_some kf_some q_callP' jp_some jd_some jf_some q_callI' dL_map iL_map ds_map' nil_slD nil_nil nil_sl nil_ref nil_e0
end Go.Vm

/- Evaluating: calls that share blocks; copies. -/
namespace Go.Vm
open Go
section
variable {lo : Lower} {env vars vs : List AV} {st st2 : List AO} {ext : Option Ext} {f : FuncId} {l : List Nat} {n i j m : Nat} {v : AV} {p q : List AV}
def bkM (l : List Nat) (n : Nat) (j : Nat) : Option Nat := if j < l.length then l[j]? else some (n + (j - l.length))
def bk2 (l : List Nat) (n j : Nat) (b : Bool) : Option Nat := match b with | true => l[j]? | false => some (n + (j - l.length))
theorem bk_eq : bkM l n j = bk2 l n j (decide (j < l.length)) := by
  simp only [bkM, bk2]
  by_cases h : j < l.length <;> simp [h]
theorem bk_t : bk2 l n j true = l[j]? := id rfl
theorem bk_f : bk2 l n j false = some (n + (j - l.length)) := id rfl
def siC (m : Nat → Option Nat) (st2 st : List AO) (i : Nat) (o : Option Nat) : AO := match o with | some j => renO m (st2.getD j .dead) | none => st.getD i .dead
theorem si_some {m : Nat → Option Nat} : siC m st2 st i (some j) = renO m (st2.getD j .dead) := id rfl
theorem si_none {m : Nat → Option Nat} : siC m st2 st i none = st.getD i .dead := id rfl
def cuC (vars : List AV) (st : List AO) (l : List Nat) (r : Option (AV × List AO)) : Option (AV × S) := match r with
  | some (v, st2) => some (ren (bkM l st.length) v, ⟨vars, (List.range st.length).map (fun i => siC (bkM l st.length) st2 st i (idx l i)) ++ (st2.drop l.length).map (renO (bkM l st.length)), none⟩)
  | none => none
theorem cu_some : cuC vars st l (some (v, st2)) = some (ren (bkM l st.length) v, ⟨vars, (List.range st.length).map (fun i => siC (bkM l st.length) st2 st i (idx l i)) ++ (st2.drop l.length).map (renO (bkM l st.length)), none⟩) := id rfl
def csC (lo : Lower) (f : FuncId) (vars : List AV) (st : List AO) (all : List AV) (l : List Nat) (ok : Bool) : Option (AV × S) := match ok with
  | true => cuC vars st l (callS lo f (renL (idx l) all) (pickSt (idx l) l st))
  | false => none
theorem cs_true {all : List AV} : csC lo f vars st all l true = cuC vars st l (callS lo f (renL (idx l) all) (pickSt (idx l) l st)) := id rfl
def crC (lo : Lower) (vars : List AV) (st : List AO) (f : FuncId) (all : List AV) (l : List Nat) : Option (AV × S) := csC lo f vars st all l (l.all fun i => decide (i < st.length))
theorem cr_eq {all : List AV} : crC lo vars st f all l = csC lo f vars st all l (l.all fun i => decide (i < st.length)) := id rfl
def cwC (lo : Lower) (vars : List AV) (st : List AO) (vs : List AV) (r : Option (FuncId × List AV × List AV)) : Option (AV × S) := match r with
  | none => none
  | some (f, a, b) => crC lo vars st f (a ++ vs ++ b) (reach st 1000 [] (idsL (a ++ vs ++ b)))
theorem cw_some : cwC lo vars st vs (some (f, p, q)) = crC lo vars st f (p ++ vs ++ q) (reach st 1000 [] (idsL (p ++ vs ++ q))) := id rfl
theorem op_callS {fo : Opnd} {args : List Opnd} (h : (fnOf (opnd vars env fo)).isSome = true) : aOp lo vars env ⟨vars, st, none⟩ (.call .sh fo args) = cwC lo vars st (opnds vars env args) (fnOf (opnd vars env fo)) := by
  simp only [aOp, aCall]
  split
  · rename_i e; rw [e] at h; cases h
  · simp only [cwC]
    rcases fnOf (opnd vars env fo) with _ | ⟨f, a, b⟩
    · rfl
    · simp only [crC, Option.isSome_none, Bool.false_or]
      cases ha : (reach st 1000 [] (idsL (a ++ opnds vars env args ++ b))).all (fun i => decide (i < st.length))
      · simp only [Bool.not_false, if_true, csC]
      · simp only [Bool.not_true, Bool.false_eq_true, if_false, csC, cuC]
        rcases callS lo f (renL (idx (reach st 1000 [] (idsL (a ++ opnds vars env args ++ b)))) (a ++ opnds vars env args ++ b)) (pickSt (idx (reach st 1000 [] (idsL (a ++ opnds vars env args ++ b)))) (reach st 1000 [] (idsL (a ++ opnds vars env args ++ b))) st) with _ | ⟨v, st2⟩
        · rfl
        · rfl
theorem callS_go {E : Env} {n : Nat} {f : FuncId} {fn : IFn} {c : IR} {r : List RV} {vars : List AV} (h : E.fn f = some fn) (h1 : fn.body = c) (h2 : fn.res = r) (h3 : decide (fn.np < vs.length) = false) (h4 : vs ++ List.replicate (fn.nv - vs.length) .junk = vars) :
    callS (level E (n + 1)) f vs st = psC st.length (fin r (aCode (level E n) ⟨st.length, false⟩ c ⟨vars, st, none⟩)) := by
  rw [callS_eq h, run_eq h3, h1, h2, h4]
def coK (st : List AO) (vars : List AV) (ext : Option Ext) (id sz a n : Nat) (es : List (List D)) (o : Option AO) : Option (AV × S) := match o with
  | some (.arr sz1 old) => if sz1 = sz ∧ a + n ≤ old.length then some (.imm (.int .i64 (min es.length n : Nat)), ⟨vars, st.set id (.arr sz (Vm.setRange old a (es.take (min es.length n)))), ext⟩) else none
  | some (.box cs) => if (a + n) * sz ≤ cs.length ∧ (es.take (min es.length n)).flatten.length = (min es.length n) * sz then some (.imm (.int .i64 (min es.length n : Nat)), ⟨vars, st.set id (.box (Vm.setRange cs (a * sz) ((es.take (min es.length n)).flatten.map .imm))), ext⟩) else none
  | _ => none
def coC (st : List AO) (vars : List AV) (ext : Option Ext) (sz : Nat) (d : AV) (r : Option (Nat × List (List D))) : Option (AV × S) := match d, r with
  | .ref id sz1 a n, some (sz2, es) => if sz1 = sz ∧ (es = [] ∨ sz2 = sz) then coK st vars ext id sz a n es st[id]? else none
  | .imm .nil, some _ => some (.imm (.int .i64 0), ⟨vars, st, ext⟩)
  | .e0 _, some _ => some (.imm (.int .i64 0), ⟨vars, st, ext⟩)
  | _, _ => none
theorem op_copy {sz : Nat} {d x : Opnd} : aOp lo vars env ⟨vars, st, ext⟩ (.copy sz d x) = coC st vars ext sz (opnd vars env d) (srcOf st (opnd vars env x)) := by
  simp only [aOp, coC]
  cases opnd vars env d with
  | ref id sz1 a n =>
    rcases srcOf st (opnd vars env x) with _ | ⟨sz2, es⟩
    · rfl
    · simp only
      by_cases h : sz1 = sz ∧ (es = [] ∨ sz2 = sz)
      · simp only [h, and_self, if_true, coK]
        rcases st[id]? with _ | o
        · rfl
        · cases o <;> rfl
      · simp only [h, if_false]
  | imm d => cases d <;> rcases srcOf st (opnd vars env x) with _ | ⟨sz2, es⟩ <;> rfl
  | _ => rcases srcOf st (opnd vars env x) with _ | ⟨sz2, es⟩ <;> rfl
theorem co_ref {id sz a : Nat} {es : List (List D)} : coC st vars ext sz (.ref id sz a n) (some (sz, es)) = coK st vars ext id sz a n es st[id]? := by simp [coC]
theorem co_ref0 {id sz a : Nat} : coC st vars ext sz (.ref id sz a n) (some (m, [])) = coK st vars ext id sz a n [] st[id]? := by simp [coC]
theorem ck_arr {id sz a : Nat} {es old : List (List D)} (h : a + n ≤ old.length) : coK st vars ext id sz a n es (some (.arr sz old)) = some (.imm (.int .i64 (min es.length n : Nat)), ⟨vars, st.set id (.arr sz (Vm.setRange old a (es.take (min es.length n)))), ext⟩) := by simp [coK, h]
theorem mf_none' {f : FuncId} {x y : List AV} {p : Option (List D)} : mfC f x y none p = .clo f x y := id rfl
end
attribute [go_sem] mf_none' bk_eq bk_t bk_f si_some si_none cu_some cs_true cr_eq cw_some op_callS op_copy co_ref co_ref0 ck_arr ps_some
end Go.Vm

/- Evaluating: far places of a list. -/
namespace Go.Vm
section
universe u
variable {α : Type u} {d : α}
theorem gd64 {x0 x1 x2 x3 x4 x5 x6 x7 x8 x9 x10 x11 x12 x13 x14 x15 x16 x17 x18 x19 x20 x21 x22 x23 x24 x25 x26 x27 x28 x29 x30 x31 x32 x33 x34 x35 x36 x37 x38 x39 x40 x41 x42 x43 x44 x45 x46 x47 x48 x49 x50 x51 x52 x53 x54 x55 x56 x57 x58 x59 x60 x61 x62 x63 x64 : α} {r : List α} : List.getD (x0 :: x1 :: x2 :: x3 :: x4 :: x5 :: x6 :: x7 :: x8 :: x9 :: x10 :: x11 :: x12 :: x13 :: x14 :: x15 :: x16 :: x17 :: x18 :: x19 :: x20 :: x21 :: x22 :: x23 :: x24 :: x25 :: x26 :: x27 :: x28 :: x29 :: x30 :: x31 :: x32 :: x33 :: x34 :: x35 :: x36 :: x37 :: x38 :: x39 :: x40 :: x41 :: x42 :: x43 :: x44 :: x45 :: x46 :: x47 :: x48 :: x49 :: x50 :: x51 :: x52 :: x53 :: x54 :: x55 :: x56 :: x57 :: x58 :: x59 :: x60 :: x61 :: x62 :: x63 :: x64 :: r) 64 d = x64 := id rfl
theorem gd65 {x0 x1 x2 x3 x4 x5 x6 x7 x8 x9 x10 x11 x12 x13 x14 x15 x16 x17 x18 x19 x20 x21 x22 x23 x24 x25 x26 x27 x28 x29 x30 x31 x32 x33 x34 x35 x36 x37 x38 x39 x40 x41 x42 x43 x44 x45 x46 x47 x48 x49 x50 x51 x52 x53 x54 x55 x56 x57 x58 x59 x60 x61 x62 x63 x64 x65 : α} {r : List α} : List.getD (x0 :: x1 :: x2 :: x3 :: x4 :: x5 :: x6 :: x7 :: x8 :: x9 :: x10 :: x11 :: x12 :: x13 :: x14 :: x15 :: x16 :: x17 :: x18 :: x19 :: x20 :: x21 :: x22 :: x23 :: x24 :: x25 :: x26 :: x27 :: x28 :: x29 :: x30 :: x31 :: x32 :: x33 :: x34 :: x35 :: x36 :: x37 :: x38 :: x39 :: x40 :: x41 :: x42 :: x43 :: x44 :: x45 :: x46 :: x47 :: x48 :: x49 :: x50 :: x51 :: x52 :: x53 :: x54 :: x55 :: x56 :: x57 :: x58 :: x59 :: x60 :: x61 :: x62 :: x63 :: x64 :: x65 :: r) 65 d = x65 := id rfl
theorem gd66 {x0 x1 x2 x3 x4 x5 x6 x7 x8 x9 x10 x11 x12 x13 x14 x15 x16 x17 x18 x19 x20 x21 x22 x23 x24 x25 x26 x27 x28 x29 x30 x31 x32 x33 x34 x35 x36 x37 x38 x39 x40 x41 x42 x43 x44 x45 x46 x47 x48 x49 x50 x51 x52 x53 x54 x55 x56 x57 x58 x59 x60 x61 x62 x63 x64 x65 x66 : α} {r : List α} : List.getD (x0 :: x1 :: x2 :: x3 :: x4 :: x5 :: x6 :: x7 :: x8 :: x9 :: x10 :: x11 :: x12 :: x13 :: x14 :: x15 :: x16 :: x17 :: x18 :: x19 :: x20 :: x21 :: x22 :: x23 :: x24 :: x25 :: x26 :: x27 :: x28 :: x29 :: x30 :: x31 :: x32 :: x33 :: x34 :: x35 :: x36 :: x37 :: x38 :: x39 :: x40 :: x41 :: x42 :: x43 :: x44 :: x45 :: x46 :: x47 :: x48 :: x49 :: x50 :: x51 :: x52 :: x53 :: x54 :: x55 :: x56 :: x57 :: x58 :: x59 :: x60 :: x61 :: x62 :: x63 :: x64 :: x65 :: x66 :: r) 66 d = x66 := id rfl
theorem gd67 {x0 x1 x2 x3 x4 x5 x6 x7 x8 x9 x10 x11 x12 x13 x14 x15 x16 x17 x18 x19 x20 x21 x22 x23 x24 x25 x26 x27 x28 x29 x30 x31 x32 x33 x34 x35 x36 x37 x38 x39 x40 x41 x42 x43 x44 x45 x46 x47 x48 x49 x50 x51 x52 x53 x54 x55 x56 x57 x58 x59 x60 x61 x62 x63 x64 x65 x66 x67 : α} {r : List α} : List.getD (x0 :: x1 :: x2 :: x3 :: x4 :: x5 :: x6 :: x7 :: x8 :: x9 :: x10 :: x11 :: x12 :: x13 :: x14 :: x15 :: x16 :: x17 :: x18 :: x19 :: x20 :: x21 :: x22 :: x23 :: x24 :: x25 :: x26 :: x27 :: x28 :: x29 :: x30 :: x31 :: x32 :: x33 :: x34 :: x35 :: x36 :: x37 :: x38 :: x39 :: x40 :: x41 :: x42 :: x43 :: x44 :: x45 :: x46 :: x47 :: x48 :: x49 :: x50 :: x51 :: x52 :: x53 :: x54 :: x55 :: x56 :: x57 :: x58 :: x59 :: x60 :: x61 :: x62 :: x63 :: x64 :: x65 :: x66 :: x67 :: r) 67 d = x67 := id rfl
theorem gd68 {x0 x1 x2 x3 x4 x5 x6 x7 x8 x9 x10 x11 x12 x13 x14 x15 x16 x17 x18 x19 x20 x21 x22 x23 x24 x25 x26 x27 x28 x29 x30 x31 x32 x33 x34 x35 x36 x37 x38 x39 x40 x41 x42 x43 x44 x45 x46 x47 x48 x49 x50 x51 x52 x53 x54 x55 x56 x57 x58 x59 x60 x61 x62 x63 x64 x65 x66 x67 x68 : α} {r : List α} : List.getD (x0 :: x1 :: x2 :: x3 :: x4 :: x5 :: x6 :: x7 :: x8 :: x9 :: x10 :: x11 :: x12 :: x13 :: x14 :: x15 :: x16 :: x17 :: x18 :: x19 :: x20 :: x21 :: x22 :: x23 :: x24 :: x25 :: x26 :: x27 :: x28 :: x29 :: x30 :: x31 :: x32 :: x33 :: x34 :: x35 :: x36 :: x37 :: x38 :: x39 :: x40 :: x41 :: x42 :: x43 :: x44 :: x45 :: x46 :: x47 :: x48 :: x49 :: x50 :: x51 :: x52 :: x53 :: x54 :: x55 :: x56 :: x57 :: x58 :: x59 :: x60 :: x61 :: x62 :: x63 :: x64 :: x65 :: x66 :: x67 :: x68 :: r) 68 d = x68 := id rfl
theorem gd69 {x0 x1 x2 x3 x4 x5 x6 x7 x8 x9 x10 x11 x12 x13 x14 x15 x16 x17 x18 x19 x20 x21 x22 x23 x24 x25 x26 x27 x28 x29 x30 x31 x32 x33 x34 x35 x36 x37 x38 x39 x40 x41 x42 x43 x44 x45 x46 x47 x48 x49 x50 x51 x52 x53 x54 x55 x56 x57 x58 x59 x60 x61 x62 x63 x64 x65 x66 x67 x68 x69 : α} {r : List α} : List.getD (x0 :: x1 :: x2 :: x3 :: x4 :: x5 :: x6 :: x7 :: x8 :: x9 :: x10 :: x11 :: x12 :: x13 :: x14 :: x15 :: x16 :: x17 :: x18 :: x19 :: x20 :: x21 :: x22 :: x23 :: x24 :: x25 :: x26 :: x27 :: x28 :: x29 :: x30 :: x31 :: x32 :: x33 :: x34 :: x35 :: x36 :: x37 :: x38 :: x39 :: x40 :: x41 :: x42 :: x43 :: x44 :: x45 :: x46 :: x47 :: x48 :: x49 :: x50 :: x51 :: x52 :: x53 :: x54 :: x55 :: x56 :: x57 :: x58 :: x59 :: x60 :: x61 :: x62 :: x63 :: x64 :: x65 :: x66 :: x67 :: x68 :: x69 :: r) 69 d = x69 := id rfl
theorem gd70 {x0 x1 x2 x3 x4 x5 x6 x7 x8 x9 x10 x11 x12 x13 x14 x15 x16 x17 x18 x19 x20 x21 x22 x23 x24 x25 x26 x27 x28 x29 x30 x31 x32 x33 x34 x35 x36 x37 x38 x39 x40 x41 x42 x43 x44 x45 x46 x47 x48 x49 x50 x51 x52 x53 x54 x55 x56 x57 x58 x59 x60 x61 x62 x63 x64 x65 x66 x67 x68 x69 x70 : α} {r : List α} : List.getD (x0 :: x1 :: x2 :: x3 :: x4 :: x5 :: x6 :: x7 :: x8 :: x9 :: x10 :: x11 :: x12 :: x13 :: x14 :: x15 :: x16 :: x17 :: x18 :: x19 :: x20 :: x21 :: x22 :: x23 :: x24 :: x25 :: x26 :: x27 :: x28 :: x29 :: x30 :: x31 :: x32 :: x33 :: x34 :: x35 :: x36 :: x37 :: x38 :: x39 :: x40 :: x41 :: x42 :: x43 :: x44 :: x45 :: x46 :: x47 :: x48 :: x49 :: x50 :: x51 :: x52 :: x53 :: x54 :: x55 :: x56 :: x57 :: x58 :: x59 :: x60 :: x61 :: x62 :: x63 :: x64 :: x65 :: x66 :: x67 :: x68 :: x69 :: x70 :: r) 70 d = x70 := id rfl
theorem gd71 {x0 x1 x2 x3 x4 x5 x6 x7 x8 x9 x10 x11 x12 x13 x14 x15 x16 x17 x18 x19 x20 x21 x22 x23 x24 x25 x26 x27 x28 x29 x30 x31 x32 x33 x34 x35 x36 x37 x38 x39 x40 x41 x42 x43 x44 x45 x46 x47 x48 x49 x50 x51 x52 x53 x54 x55 x56 x57 x58 x59 x60 x61 x62 x63 x64 x65 x66 x67 x68 x69 x70 x71 : α} {r : List α} : List.getD (x0 :: x1 :: x2 :: x3 :: x4 :: x5 :: x6 :: x7 :: x8 :: x9 :: x10 :: x11 :: x12 :: x13 :: x14 :: x15 :: x16 :: x17 :: x18 :: x19 :: x20 :: x21 :: x22 :: x23 :: x24 :: x25 :: x26 :: x27 :: x28 :: x29 :: x30 :: x31 :: x32 :: x33 :: x34 :: x35 :: x36 :: x37 :: x38 :: x39 :: x40 :: x41 :: x42 :: x43 :: x44 :: x45 :: x46 :: x47 :: x48 :: x49 :: x50 :: x51 :: x52 :: x53 :: x54 :: x55 :: x56 :: x57 :: x58 :: x59 :: x60 :: x61 :: x62 :: x63 :: x64 :: x65 :: x66 :: x67 :: x68 :: x69 :: x70 :: x71 :: r) 71 d = x71 := id rfl
theorem gd72 {x0 x1 x2 x3 x4 x5 x6 x7 x8 x9 x10 x11 x12 x13 x14 x15 x16 x17 x18 x19 x20 x21 x22 x23 x24 x25 x26 x27 x28 x29 x30 x31 x32 x33 x34 x35 x36 x37 x38 x39 x40 x41 x42 x43 x44 x45 x46 x47 x48 x49 x50 x51 x52 x53 x54 x55 x56 x57 x58 x59 x60 x61 x62 x63 x64 x65 x66 x67 x68 x69 x70 x71 x72 : α} {r : List α} : List.getD (x0 :: x1 :: x2 :: x3 :: x4 :: x5 :: x6 :: x7 :: x8 :: x9 :: x10 :: x11 :: x12 :: x13 :: x14 :: x15 :: x16 :: x17 :: x18 :: x19 :: x20 :: x21 :: x22 :: x23 :: x24 :: x25 :: x26 :: x27 :: x28 :: x29 :: x30 :: x31 :: x32 :: x33 :: x34 :: x35 :: x36 :: x37 :: x38 :: x39 :: x40 :: x41 :: x42 :: x43 :: x44 :: x45 :: x46 :: x47 :: x48 :: x49 :: x50 :: x51 :: x52 :: x53 :: x54 :: x55 :: x56 :: x57 :: x58 :: x59 :: x60 :: x61 :: x62 :: x63 :: x64 :: x65 :: x66 :: x67 :: x68 :: x69 :: x70 :: x71 :: x72 :: r) 72 d = x72 := id rfl
theorem gd73 {x0 x1 x2 x3 x4 x5 x6 x7 x8 x9 x10 x11 x12 x13 x14 x15 x16 x17 x18 x19 x20 x21 x22 x23 x24 x25 x26 x27 x28 x29 x30 x31 x32 x33 x34 x35 x36 x37 x38 x39 x40 x41 x42 x43 x44 x45 x46 x47 x48 x49 x50 x51 x52 x53 x54 x55 x56 x57 x58 x59 x60 x61 x62 x63 x64 x65 x66 x67 x68 x69 x70 x71 x72 x73 : α} {r : List α} : List.getD (x0 :: x1 :: x2 :: x3 :: x4 :: x5 :: x6 :: x7 :: x8 :: x9 :: x10 :: x11 :: x12 :: x13 :: x14 :: x15 :: x16 :: x17 :: x18 :: x19 :: x20 :: x21 :: x22 :: x23 :: x24 :: x25 :: x26 :: x27 :: x28 :: x29 :: x30 :: x31 :: x32 :: x33 :: x34 :: x35 :: x36 :: x37 :: x38 :: x39 :: x40 :: x41 :: x42 :: x43 :: x44 :: x45 :: x46 :: x47 :: x48 :: x49 :: x50 :: x51 :: x52 :: x53 :: x54 :: x55 :: x56 :: x57 :: x58 :: x59 :: x60 :: x61 :: x62 :: x63 :: x64 :: x65 :: x66 :: x67 :: x68 :: x69 :: x70 :: x71 :: x72 :: x73 :: r) 73 d = x73 := id rfl
theorem gd74 {x0 x1 x2 x3 x4 x5 x6 x7 x8 x9 x10 x11 x12 x13 x14 x15 x16 x17 x18 x19 x20 x21 x22 x23 x24 x25 x26 x27 x28 x29 x30 x31 x32 x33 x34 x35 x36 x37 x38 x39 x40 x41 x42 x43 x44 x45 x46 x47 x48 x49 x50 x51 x52 x53 x54 x55 x56 x57 x58 x59 x60 x61 x62 x63 x64 x65 x66 x67 x68 x69 x70 x71 x72 x73 x74 : α} {r : List α} : List.getD (x0 :: x1 :: x2 :: x3 :: x4 :: x5 :: x6 :: x7 :: x8 :: x9 :: x10 :: x11 :: x12 :: x13 :: x14 :: x15 :: x16 :: x17 :: x18 :: x19 :: x20 :: x21 :: x22 :: x23 :: x24 :: x25 :: x26 :: x27 :: x28 :: x29 :: x30 :: x31 :: x32 :: x33 :: x34 :: x35 :: x36 :: x37 :: x38 :: x39 :: x40 :: x41 :: x42 :: x43 :: x44 :: x45 :: x46 :: x47 :: x48 :: x49 :: x50 :: x51 :: x52 :: x53 :: x54 :: x55 :: x56 :: x57 :: x58 :: x59 :: x60 :: x61 :: x62 :: x63 :: x64 :: x65 :: x66 :: x67 :: x68 :: x69 :: x70 :: x71 :: x72 :: x73 :: x74 :: r) 74 d = x74 := id rfl
theorem gd75 {x0 x1 x2 x3 x4 x5 x6 x7 x8 x9 x10 x11 x12 x13 x14 x15 x16 x17 x18 x19 x20 x21 x22 x23 x24 x25 x26 x27 x28 x29 x30 x31 x32 x33 x34 x35 x36 x37 x38 x39 x40 x41 x42 x43 x44 x45 x46 x47 x48 x49 x50 x51 x52 x53 x54 x55 x56 x57 x58 x59 x60 x61 x62 x63 x64 x65 x66 x67 x68 x69 x70 x71 x72 x73 x74 x75 : α} {r : List α} : List.getD (x0 :: x1 :: x2 :: x3 :: x4 :: x5 :: x6 :: x7 :: x8 :: x9 :: x10 :: x11 :: x12 :: x13 :: x14 :: x15 :: x16 :: x17 :: x18 :: x19 :: x20 :: x21 :: x22 :: x23 :: x24 :: x25 :: x26 :: x27 :: x28 :: x29 :: x30 :: x31 :: x32 :: x33 :: x34 :: x35 :: x36 :: x37 :: x38 :: x39 :: x40 :: x41 :: x42 :: x43 :: x44 :: x45 :: x46 :: x47 :: x48 :: x49 :: x50 :: x51 :: x52 :: x53 :: x54 :: x55 :: x56 :: x57 :: x58 :: x59 :: x60 :: x61 :: x62 :: x63 :: x64 :: x65 :: x66 :: x67 :: x68 :: x69 :: x70 :: x71 :: x72 :: x73 :: x74 :: x75 :: r) 75 d = x75 := id rfl
theorem gd76 {x0 x1 x2 x3 x4 x5 x6 x7 x8 x9 x10 x11 x12 x13 x14 x15 x16 x17 x18 x19 x20 x21 x22 x23 x24 x25 x26 x27 x28 x29 x30 x31 x32 x33 x34 x35 x36 x37 x38 x39 x40 x41 x42 x43 x44 x45 x46 x47 x48 x49 x50 x51 x52 x53 x54 x55 x56 x57 x58 x59 x60 x61 x62 x63 x64 x65 x66 x67 x68 x69 x70 x71 x72 x73 x74 x75 x76 : α} {r : List α} : List.getD (x0 :: x1 :: x2 :: x3 :: x4 :: x5 :: x6 :: x7 :: x8 :: x9 :: x10 :: x11 :: x12 :: x13 :: x14 :: x15 :: x16 :: x17 :: x18 :: x19 :: x20 :: x21 :: x22 :: x23 :: x24 :: x25 :: x26 :: x27 :: x28 :: x29 :: x30 :: x31 :: x32 :: x33 :: x34 :: x35 :: x36 :: x37 :: x38 :: x39 :: x40 :: x41 :: x42 :: x43 :: x44 :: x45 :: x46 :: x47 :: x48 :: x49 :: x50 :: x51 :: x52 :: x53 :: x54 :: x55 :: x56 :: x57 :: x58 :: x59 :: x60 :: x61 :: x62 :: x63 :: x64 :: x65 :: x66 :: x67 :: x68 :: x69 :: x70 :: x71 :: x72 :: x73 :: x74 :: x75 :: x76 :: r) 76 d = x76 := id rfl
theorem gd77 {x0 x1 x2 x3 x4 x5 x6 x7 x8 x9 x10 x11 x12 x13 x14 x15 x16 x17 x18 x19 x20 x21 x22 x23 x24 x25 x26 x27 x28 x29 x30 x31 x32 x33 x34 x35 x36 x37 x38 x39 x40 x41 x42 x43 x44 x45 x46 x47 x48 x49 x50 x51 x52 x53 x54 x55 x56 x57 x58 x59 x60 x61 x62 x63 x64 x65 x66 x67 x68 x69 x70 x71 x72 x73 x74 x75 x76 x77 : α} {r : List α} : List.getD (x0 :: x1 :: x2 :: x3 :: x4 :: x5 :: x6 :: x7 :: x8 :: x9 :: x10 :: x11 :: x12 :: x13 :: x14 :: x15 :: x16 :: x17 :: x18 :: x19 :: x20 :: x21 :: x22 :: x23 :: x24 :: x25 :: x26 :: x27 :: x28 :: x29 :: x30 :: x31 :: x32 :: x33 :: x34 :: x35 :: x36 :: x37 :: x38 :: x39 :: x40 :: x41 :: x42 :: x43 :: x44 :: x45 :: x46 :: x47 :: x48 :: x49 :: x50 :: x51 :: x52 :: x53 :: x54 :: x55 :: x56 :: x57 :: x58 :: x59 :: x60 :: x61 :: x62 :: x63 :: x64 :: x65 :: x66 :: x67 :: x68 :: x69 :: x70 :: x71 :: x72 :: x73 :: x74 :: x75 :: x76 :: x77 :: r) 77 d = x77 := id rfl
theorem gd78 {x0 x1 x2 x3 x4 x5 x6 x7 x8 x9 x10 x11 x12 x13 x14 x15 x16 x17 x18 x19 x20 x21 x22 x23 x24 x25 x26 x27 x28 x29 x30 x31 x32 x33 x34 x35 x36 x37 x38 x39 x40 x41 x42 x43 x44 x45 x46 x47 x48 x49 x50 x51 x52 x53 x54 x55 x56 x57 x58 x59 x60 x61 x62 x63 x64 x65 x66 x67 x68 x69 x70 x71 x72 x73 x74 x75 x76 x77 x78 : α} {r : List α} : List.getD (x0 :: x1 :: x2 :: x3 :: x4 :: x5 :: x6 :: x7 :: x8 :: x9 :: x10 :: x11 :: x12 :: x13 :: x14 :: x15 :: x16 :: x17 :: x18 :: x19 :: x20 :: x21 :: x22 :: x23 :: x24 :: x25 :: x26 :: x27 :: x28 :: x29 :: x30 :: x31 :: x32 :: x33 :: x34 :: x35 :: x36 :: x37 :: x38 :: x39 :: x40 :: x41 :: x42 :: x43 :: x44 :: x45 :: x46 :: x47 :: x48 :: x49 :: x50 :: x51 :: x52 :: x53 :: x54 :: x55 :: x56 :: x57 :: x58 :: x59 :: x60 :: x61 :: x62 :: x63 :: x64 :: x65 :: x66 :: x67 :: x68 :: x69 :: x70 :: x71 :: x72 :: x73 :: x74 :: x75 :: x76 :: x77 :: x78 :: r) 78 d = x78 := id rfl
theorem gd79 {x0 x1 x2 x3 x4 x5 x6 x7 x8 x9 x10 x11 x12 x13 x14 x15 x16 x17 x18 x19 x20 x21 x22 x23 x24 x25 x26 x27 x28 x29 x30 x31 x32 x33 x34 x35 x36 x37 x38 x39 x40 x41 x42 x43 x44 x45 x46 x47 x48 x49 x50 x51 x52 x53 x54 x55 x56 x57 x58 x59 x60 x61 x62 x63 x64 x65 x66 x67 x68 x69 x70 x71 x72 x73 x74 x75 x76 x77 x78 x79 : α} {r : List α} : List.getD (x0 :: x1 :: x2 :: x3 :: x4 :: x5 :: x6 :: x7 :: x8 :: x9 :: x10 :: x11 :: x12 :: x13 :: x14 :: x15 :: x16 :: x17 :: x18 :: x19 :: x20 :: x21 :: x22 :: x23 :: x24 :: x25 :: x26 :: x27 :: x28 :: x29 :: x30 :: x31 :: x32 :: x33 :: x34 :: x35 :: x36 :: x37 :: x38 :: x39 :: x40 :: x41 :: x42 :: x43 :: x44 :: x45 :: x46 :: x47 :: x48 :: x49 :: x50 :: x51 :: x52 :: x53 :: x54 :: x55 :: x56 :: x57 :: x58 :: x59 :: x60 :: x61 :: x62 :: x63 :: x64 :: x65 :: x66 :: x67 :: x68 :: x69 :: x70 :: x71 :: x72 :: x73 :: x74 :: x75 :: x76 :: x77 :: x78 :: x79 :: r) 79 d = x79 := id rfl
end
attribute [go_sem] gd64 gd65 gd66 gd67 gd68 gd69 gd70 gd71 gd72 gd73 gd74 gd75 gd76 gd77 gd78 gd79
end Go.Vm

/- Evaluating: slices of slices and of arrays, variables written no more, calls told as plain data. -/
namespace Go.Vm
open Go
section
variable {lo : Lower} {env vars vs : List AV} {st news n1 : List AO} {ext : Option Ext} {ds : List D} {v : AV} {d : D} {sz id a n l h m nid off : Nat} {es : List (List D)} {cs : List D}
theorem op_boxi {x : Opnd} : aOp lo vars env ⟨vars, st, ext⟩ (.boxi x) = qC ⟨vars, st, ext⟩ (aQ lo vars env st st.length (.boxi x)) := _root_.id rfl
def bxiC (ok : Bool) (r : Option (List D)) : Option (AV × List AO) := match r with | some ds => (match ok with | true => some (.imm (.ptr ds), []) | false => none) | none => none
theorem bxi_some : bxiC true (some ds) = some (.imm (.ptr ds), []) := _root_.id rfl
theorem q_boxi {x : Opnd} : aQ lo vars env st nid (.boxi x) = bxiC ((cellsOf (opnd vars env x)).all single) (dsOf (cellsOf (opnd vars env x))) := by
  simp only [aQ, bxiC]
  cases dsOf (cellsOf (opnd vars env x)) with
  | none => rfl
  | some ds => cases (cellsOf (opnd vars env x)).all single <;> rfl
theorem sl_0ref : aSlice st none sz (.ref id m a n) none (some 0) (some 0) = some (.e0 sz) := by simp [aSlice]
theorem sl_0sl : aSlice st none sz (.imm (.sl m es)) none (some 0) (some 0) = some (.e0 sz) := by simp [aSlice]
theorem sl_0nil : aSlice st none sz (.imm .nil) none (some 0) (some 0) = some (.imm .nil) := by simp [aSlice]
theorem sl_0e : aSlice st none sz (.e0 m) none (some 0) (some 0) = some (.e0 sz) := by simp [aSlice]
theorem sl_3 {lo' hi : Nat} (h1 : lo' ≤ hi) (h2 : hi ≤ m) (h3 : m ≤ n) (h0 : 1 ≤ m) : aSlice st none sz (.ref id sz a n) (some lo') (some hi) (some m) = some .junk := by
  have h0' : m ≠ 0 := by omega
  simp [aSlice, h1, h2, h3, h0']
theorem sl_both (h1 : l ≤ h) (h2 : h ≤ n) : aSlice st none sz (.ref id sz a n) (some l) (some h) none = some (.ref id sz (a + l) (h - l)) := by
  simp [aSlice, h1, h2]
theorem sl_sboth (h1 : l ≤ h) (h2 : h ≤ es.length) : aSlice st none sz (.imm (.sl sz es)) (some l) (some h) none = some (.imm (.sl sz ((es.drop l).take (h - l)))) := by
  simp [aSlice, h1, h2]
theorem sl_hi (hh : h ≤ n) : aSlice st none sz (.ref id sz a n) none (some h) none = some (.ref id sz a h) := by
  simp [aSlice, hh]
theorem sl_lo (hl : l ≤ n) : aSlice st none sz (.ref id sz a n) (some l) none none = some (.ref id sz (a + l) (n - l)) := by
  simp [aSlice, hl]
theorem sl_spare (h1 : l ≤ h) (h2 : spare st id sz a h = true) : aSlice st none sz (.ref id sz a n) (some l) (some h) none = some (.ref id sz (a + l) (h - l)) := by
  simp [aSlice, h1, h2]
theorem sl_shi (hh : h ≤ es.length) : aSlice st none sz (.imm (.sl sz es)) none (some h) none = some (.imm (.sl sz (es.take h))) := by
  simp [aSlice, hh]
theorem sl_slo (hl : l ≤ es.length) : aSlice st none sz (.imm (.sl sz es)) (some l) none none = some (.imm (.sl sz (es.drop l))) := by
  have : (es.drop l).take (es.length - l) = es.drop l := List.take_of_length_le (by simp)
  simp [aSlice, hl, this]
def spC (sz a h : Nat) (r : Option AO) : Bool := match r with | some (.arr sz' es) => decide (sz' = sz ∧ 0 < sz ∧ a + h ≤ es.length) | _ => false
theorem sp_eq : spare st id sz a h = spC sz a h st[id]? := _root_.id rfl
theorem sp_arr (h1 : 0 < sz) (h2 : a + h ≤ es.length) : spC sz a h (some (.arr sz es)) = true := by simp [spC, h1, h2]
def clrC (vars : List AV) (st : List AO) (ext : Option Ext) (z : List D) (id sz0 a n : Nat) (r : Option AO) : Option (AV × S) := match r with
  | some (.arr sz1 old) => if z.length = sz1 ∧ sz0 = sz1 ∧ a + n ≤ old.length then some (.imm (.tup []), ⟨vars, st.set id (.arr sz1 (setRange old a (List.replicate n z))), ext⟩) else none
  | _ => none
def clxC (vars : List AV) (st : List AO) (ext : Option Ext) (z : List D) (v : AV) : Option (AV × S) := match v with
  | .ref id sz0 a n => clrC vars st ext z id sz0 a n st[id]?
  | .imm .nil => some (.imm (.tup []), ⟨vars, st, ext⟩)
  | .e0 _ => some (.imm (.tup []), ⟨vars, st, ext⟩)
  | _ => none
theorem op_clear {z : List D} {x : Opnd} : aOp lo vars env ⟨vars, st, ext⟩ (.clear z x) = clxC vars st ext z (opnd vars env x) := by
  simp only [aOp, clxC]
  cases opnd vars env x with
  | ref i a b c => simp only [clrC]; rcases st[i]? with _ | (_ | _ | _ | _ | _ | _ | _) <;> rfl
  | imm d => cases d <;> rfl
  | _ => rfl
theorem clx_ref {z : List D} : clxC vars st ext z (.ref id sz a n) = clrC vars st ext z id sz a n st[id]? := _root_.id rfl
theorem clr_arr {z : List D} (h1 : z.length = sz) (h2 : a + n ≤ es.length) : clrC vars st ext z id sz a n (some (.arr sz es)) = some (.imm (.tup []), ⟨vars, st.set id (.arr sz (setRange es a (List.replicate n z))), ext⟩) := by simp [clrC, h1, h2]
theorem ar_rest' {bytes : Nat} {old : List (List D)} (h2 : n ≤ old.length) (h : (n + es.length) * (bytes + 1) ≤ 70368744177664) : arC nid sz bytes id n sz es (some (.arr sz old)) = some (.ref nid sz 0 (n + es.length), some id, [.arr sz (old.take n ++ es ++ restE sz old (n + es.length))]) := ar_rest h2 h
theorem rest2 {old : List (List D)} {k : Nat} : restE 2 old k = old.drop k := _root_.id rfl
theorem rest1 {old : List (List D)} {k : Nat} : restE 1 old k = old.drop k := _root_.id rfl
theorem rep_0 {α : Type} {z : α} : List.replicate 0 z = [] := _root_.id rfl
theorem rep_1 {α : Type} {z : α} : List.replicate 1 z = [z] := _root_.id rfl
theorem sa_imm {k : Nat} (h1 : h ≤ k) (h2 : h * sz ≤ cs.length) : aSlice st (some k) sz (.imm (.ptr cs)) none (some h) none = some (.imm (.sl sz (chunks sz h cs))) := by
  simp [aSlice, h1, h2]
theorem ia_arrN {i k : Nat} (h : i < k) : aIaddr (some k) sz (.ptr id off) (i : Int) = some (.ptr id (off + i * sz)) := by
  rw [ia_arr (by omega) (by omega)]; rfl
theorem ia_arrIN {i k : Nat} (h : i < k) : aIaddr (some k) sz (.imm (.ptr cs)) (i : Int) = some (.imm (.ptr (cs.drop (i * sz)))) := by
  rw [ia_arrI (by omega) (by omega)]; rfl
theorem ld_drop {i : Nat} : aLoad st false 1 (.imm (.ptr (cs.drop i))) = (cs[i]?).map .imm := by
  by_cases h : i < cs.length
  · have h2 : 1 ≤ cs.length - i := by omega
    simp [aLoad, h2]
  · have h2 : ¬ 1 ≤ cs.length - i := by omega
    simp [aLoad, h2, show cs[i]? = none from List.getElem?_eq_none (by omega)]
def sbC (id sz k off h : Nat) (r : Option AO) : Option AV := match r with
  | some (.box xs) => if off % sz = 0 ∧ off + k * sz = xs.length then some (.ref id sz (off / sz) h) else none
  | some (.fbox xs) => if off % sz = 0 ∧ off + k * sz = xs.length then some (.ref id sz (off / sz) h) else none
  | _ => none
theorem sa_hi {k : Nat} (hk : h ≤ k) : aSlice st (some k) sz (.ptr id off) none (some h) none = sbC id sz k off h st[id]? := by
  simp only [aSlice, Option.getD_some, Option.getD_none, Nat.zero_le, hk, and_self, if_true, rdBox, sbC]
  rcases st[id]? with _ | (_ | xs | xs | _ | _ | _ | _) <;> simp
theorem sa_all {k : Nat} : aSlice st (some k) sz (.ptr id off) none none none = sbC id sz k off k st[id]? := by
  simp only [aSlice, Option.getD_none, Nat.zero_le, Nat.le_refl, and_self, if_true, rdBox, sbC]
  rcases st[id]? with _ | (_ | xs | xs | _ | _ | _ | _) <;> simp
theorem sb_box {k : Nat} {xs : List AV} (h1 : off % sz = 0) (h2 : off + k * sz = xs.length) : sbC id sz k off h (some (.box xs)) = some (.ref id sz (off / sz) h) := by simp [sbC, h1, h2]
theorem ck_box {xs : List AV} (h0 : es.length ≤ n) (h1 : (a + n) * sz ≤ xs.length) (h2 : es.flatten.length = es.length * sz) :
    coK st vars ext id sz a n es (some (.box xs)) = some (.imm (.int .i64 (es.length : Nat)), ⟨vars, st.set id (.box (Vm.setRange xs (a * sz) (es.flatten.map .imm))), ext⟩) := by
  simp [coK, Nat.min_eq_left h0, h1, h2]
def sxC (sz lw n : Nat) (r : Option (List D)) : Option (Nat × List (List D)) := match r with | some ds => if (lw + n) * sz ≤ ds.length then some (sz, chunks sz n (ds.drop (lw * sz))) else none | none => none
theorem sr_box {lw : Nat} {xs : List AV} : srC sz lw n (some (.box xs)) = sxC sz lw n (dsOf xs) := _root_.id rfl
theorem sx_some {lw : Nat} (h : (lw + n) * sz ≤ ds.length) : sxC sz lw n (some ds) = some (sz, chunks sz n (ds.drop (lw * sz))) := by simp [sxC, h]
theorem fll_nil : flatDLL [] = true := _root_.id rfl
theorem fll_cons {x : List D} {r : List (List D)} : flatDLL (x :: r) = (flatDL x && flatDLL r) := _root_.id rfl
def zpC (st : List AO) (is : List Nat) (r : Option (AV × List AO)) : Option (AV × List AO) := match r with
  | some r => if isFrz st is || (flatV r.1 && flatOL r.2) then (match deep r.2 r.1 with | some d => some (.imm d, []) | none => none) else none
  | none => none
def zrC (r : Option D) : Option (AV × List AO) := match r with | some d => some (.imm d, []) | none => none
theorem zr_some : zrC (some d) = some (.imm d, []) := _root_.id rfl
theorem zp_some {is : List Nat} (h : (isFrz st is || (flatV v && flatOL n1)) = true) : zpC st is (some (v, n1)) = zrC (deep n1 v) := by simp only [zpC, h, if_true, zrC]
def zdC (lo : Lower) (f : FuncId) (st : List AO) (is : List Nat) (r : Option (List D)) : Option (AV × List AO) := match r with | none => none | some ds => zpC st is (callI lo f ds)
theorem zd_some {f : FuncId} {is : List Nat} : zdC lo f st is (some ds) = zpC st is (callI lo f ds) := _root_.id rfl
def zfC (lo : Lower) (st : List AO) (vs : List AV) (r : Option (FuncId × List AV × List AV)) : Option (AV × List AO) := match r with
  | none => none
  | some (f, a, b) => zdC lo f st (idsL (a ++ vs ++ b)) (deepL st (a ++ vs ++ b))
theorem zf_some {f : FuncId} {p q : List AV} : zfC lo st vs (some (f, p, q)) = zdC lo f st (idsL (p ++ vs ++ q)) (deepL st (p ++ vs ++ q)) := _root_.id rfl
theorem q_callF' {f : Opnd} {args : List Opnd} : aQ lo vars env st nid (.call .fz f args) = zfC lo st (opnds vars env args) (fnOf (opnd vars env f)) := by
  simp only [aQ, zfC, zdC, zpC]
  rcases fnOf (opnd vars env f) with _ | ⟨f, a, b⟩
  · rfl
  · simp only
    rcases deepL st (a ++ opnds vars env args ++ b) with _ | ds
    · rfl
    · simp only
      rcases callI lo f ds <;> rfl
def zsC (vars : List AV) (st : List AO) (ext : Option Ext) (r : Option (AV × List AO)) : Option (AV × S) := match r with
  | some (v, _) => some (v, ⟨vars, st, ext⟩)
  | none => none
theorem zs_some : zsC vars st ext (some (v, news)) = some (v, ⟨vars, st, ext⟩) := _root_.id rfl
theorem op_callF {f : Opnd} {args : List Opnd} (h : (fnOf (opnd vars env f)).isSome = true) : aOp lo vars env ⟨vars, st, ext⟩ (.call .fz f args) = zsC vars st ext (zfC lo st (opnds vars env args) (fnOf (opnd vars env f))) := by
  simp only [aOp, aCall]
  split
  · rename_i e; rw [e] at h; cases h
  · simp only [zfC]
    rcases fnOf (opnd vars env f) with _ | ⟨f, a, b⟩
    · rfl
    · simp only [zdC]
      rcases deepL st (a ++ opnds vars env args ++ b) with _ | ds
      · rfl
      · simp only [zpC]
        rcases callI lo f ds with _ | r
        · rfl
        · simp only [zsC]
          by_cases hc : (isFrz st (idsL (a ++ opnds vars env args ++ b)) || (flatV r.1 && flatOL r.2)) = true
          · simp only [hc, if_true]
            rcases deep r.2 r.1 <;> rfl
          · simp only [hc, Bool.false_eq_true, if_false]
end
theorem nc1 : ((1 : Nat) : Int) = 1 := rfl
theorem nc2 : ((2 : Nat) : Int) = 2 := rfl
theorem nc3 : ((3 : Nat) : Int) = 3 := rfl
theorem nc4 : ((4 : Nat) : Int) = 4 := rfl
theorem nc5 : ((5 : Nat) : Int) = 5 := rfl
theorem nc6 : ((6 : Nat) : Int) = 6 := rfl
theorem nc7 : ((7 : Nat) : Int) = 7 := rfl
theorem nc8 : ((8 : Nat) : Int) = 8 := rfl
theorem nc11 : ((11 : Nat) : Int) = 11 := rfl
theorem bin_and {k : IntKind} {x y : Int} : aBin .and (.imm (.int k x)) (.imm (.int k y)) = some (.imm (.int k (wrp k (BitVec.ofInt k.bits x &&& BitVec.ofInt k.bits y).toNat))) := by simp [aBin, binI]
theorem bin_andNot {k : IntKind} {x y : Int} : aBin .andNot (.imm (.int k x)) (.imm (.int k y)) = some (.imm (.int k (wrp k (BitVec.ofInt k.bits x &&& ~~~BitVec.ofInt k.bits y).toNat))) := by simp [aBin, binI]
theorem bin_xor {k : IntKind} {x y : Int} : aBin .xor (.imm (.int k x)) (.imm (.int k y)) = some (.imm (.int k (wrp k (BitVec.ofInt k.bits x ^^^ BitVec.ofInt k.bits y).toNat))) := by simp [aBin, binI]
theorem bin_or {k : IntKind} {x y : Int} : aBin .or (.imm (.int k x)) (.imm (.int k y)) = some (.imm (.int k (wrp k (BitVec.ofInt k.bits x ||| BitVec.ofInt k.bits y).toNat))) := by simp [aBin, binI]
def lk2 (z : D) (k : Int) (o : Option AO) : Option (AV × List AO) := match o with
  | some (.imap es) => some (.imm ((lookI es k).getD z), [])
  | _ => none
theorem lk_map {st : List AO} {z : D} {id : Nat} {k : Int} : lkC st z (.map id) (some k) = lk2 z k st[id]? := by
  first
  | (simp only [lkC, lk2]; done)
  | (simp only [lkC, lk2]
     rcases st[id]? with _ | o
     · rfl
     · cases o <;> rfl)
theorem lk_imap {z : D} {k : Int} {es : List (Int × D)} : lk2 z k (some (.imap es)) = some (.imm ((lookI es k).getD z), []) := _root_.id rfl
def muC (vars : List AV) (ext : Option Ext) (st : List AO) (id : Nat) (k : Int) (v : D) (o : Option AO) : Option (AV × S) := match o with
  | some (.imap es) => some (.junk, ⟨vars, st.set id (.imap (mapSet es k v)), ext⟩)
  | _ => none
def muF (vars : List AV) (ext : Option Ext) (st : List AO) (m : AV) (k : Option Int) (v : AV) : Option (AV × S) := match m, k, v with
  | .map id, some k, .imm v => muC vars ext st id k v st[id]?
  | _, _, _ => none
theorem mu_go {vars : List AV} {ext : Option Ext} {st : List AO} {id : Nat} {k : Int} {d : D} : muF vars ext st (.map id) (some k) (.imm d) = muC vars ext st id k d st[id]? := _root_.id rfl
theorem op_mapup' {lo : Lower} {vars env : List AV} {st : List AO} {ext : Option Ext} {m k v : Opnd} :
    aOp lo vars env ⟨vars, st, ext⟩ (.mapup m k v) = muF vars ext st (opnd vars env m) (keyI (opnd vars env k)) (opnd vars env v) := by
  simp only [aOp, muF, muC]
  rcases opnd vars env m <;> rcases keyI (opnd vars env k) with _ | k' <;> rcases opnd vars env v <;> simp only <;> split <;> simp_all
theorem mu_imap {vars : List AV} {st : List AO} {ext : Option Ext} {id : Nat} {k : Int} {d : D} {es : List (Int × D)} : muC vars ext st id k d (some (.imap es)) = some (.junk, ⟨vars, st.set id (.imap (mapSet es k d)), ext⟩) := _root_.id rfl
attribute [go_sem 900] ar_rest' sl_spare
attribute [go_sem] sl_3 sl_both sl_sboth sp_eq sp_arr op_clear clx_ref clr_arr rest2 rest1 rep_0 rep_1
theorem wa3 : wrp .i64 (3 + 1) = 4 := by decide
theorem ws3 : wrp .i64 (3 - 1) = 2 := by decide
theorem wa4 : wrp .i64 (4 + 1) = 5 := by decide
theorem ws4 : wrp .i64 (4 - 1) = 3 := by decide
theorem wa5 : wrp .i64 (5 + 1) = 6 := by decide
theorem ws5 : wrp .i64 (5 - 1) = 4 := by decide
theorem wa6 : wrp .i64 (6 + 1) = 7 := by decide
theorem ws6 : wrp .i64 (6 - 1) = 5 := by decide
theorem wa7 : wrp .i64 (7 + 1) = 8 := by decide
theorem ws7 : wrp .i64 (7 - 1) = 6 := by decide
theorem wa8 : wrp .i64 (8 + 1) = 9 := by decide
theorem ws8 : wrp .i64 (8 - 1) = 7 := by decide
theorem wa9 : wrp .i64 (9 + 1) = 10 := by decide
theorem ws9 : wrp .i64 (9 - 1) = 8 := by decide
theorem ws2 : wrp .i64 (2 - 1) = 1 := by decide
theorem ws1 : wrp .i64 (1 - 1) = 0 := by decide
attribute [go_sem] wa3 ws3 wa4 ws4 wa5 ws5 wa6 ws6 wa7 ws7 wa8 ws8 wa9 ws9 ws2 ws1
attribute [go_sem] lk_map lk_imap op_mapup' mu_go mu_imap nc11 bin_and bin_andNot bin_xor bin_or nc1 nc2 nc3 nc4 nc5 nc6 nc7 nc8 fll_nil fll_cons sr_box sx_some ck_box sa_hi sa_all sb_box zr_some ia_arrN ia_arrIN ld_drop Nat.mul_one mk_cap op_boxi bxi_some q_boxi sl_0ref sl_0sl sl_0nil sl_0e sl_hi sl_lo sl_shi sl_slo sa_imm zp_some zd_some zf_some q_callF' zs_some op_callF rest_drop List.length_take List.length_drop
end Go.Vm

/- Chapter 04: what slices.Insert on numbers does with one number: an own list is used up. -/
namespace Go.Vm
def insPrim (args : List AV) (st : List AO) : Option (AV × List AO) := match args with
  | [.ref id sz lw n, .imm (.int k i), .ref id2 sz2 lw2 n2] => match st[id]?, st[id2]? with
    | some (.arr sz' es), some (.arr sz2' [[d]]) => if (sz = 1 ∧ sz' = 1 ∧ lw = 0 ∧ k = .i64) ∧ (sz2 = 1 ∧ sz2' = 1 ∧ lw2 = 0 ∧ n2 = 1) ∧ id ≠ id2 ∧ (0 ≤ i ∧ i ≤ n ∧ n = es.length ∧ n < 1000000) then
      some (.ref st.length 1 0 (n + 1), st.set id .dead ++ [.arr 1 (es.take i.toNat ++ [d] :: es.drop i.toNat)]) else none
    | _, _ => none
  | _ => none
end Go.Vm
namespace Go.Vm
def rfOk (b : Int) : Bool := decide (b % 4294967296 / 8388608 % 256 ≠ 255) && decide (b % 4294967296 ≠ 2147483648)
def rfPrim (args : List AV) (st : List AO) : Option (AV × List AO) := match args with
  | [.imm (.int k b)] => if k = .u64 then some (.imm (.bool (rfOk b)), st) else none
  | _ => none
end Go.Vm

/- The functions of the program: the table; how each is entered. -/
set_option maxRecDepth 100000
namespace Go.Vm.P4Z
open Go Go.Vm
def fnT : FuncId → Option IFn
  | 4 => some ir4
  | 7 => some ir7
  | 8 => some ir8
  | 9 => some ir9
  | 10 => some ir10
  | 13 => some ir13
  | 17 => some ir17
  | 19 => some ir19
  | 20 => some ir20
  | 21 => some ir21
  | 22 => some ir22
  | 25 => some ir25
  | 26 => some ir26
  | 27 => some ir27
  | 28 => some ir28
  | 29 => some ir29
  | 30 => some ir30
  | 32 => some ir32
  | 38 => some ir38
  | 39 => some ir39
  | 42 => some ir42
  | 43 => some ir43
  | 44 => some ir44
  | 46 => some ir46
  | 47 => some ir47
  | 48 => some ir48
  | 50 => some ir50
  | 52 => some ir52
  | 53 => some ir53
  | 54 => some ir54
  | 55 => some ir55
  | 56 => some ir56
  | 57 => some ir57
  | 58 => some ir58
  | 59 => some ir59
  | 60 => some ir60
  | 61 => some ir61
  | 62 => some ir62
  | 64 => some ir64
  | 65 => some ir65
  | 66 => some ir66
  | 67 => some ir67
  | 68 => some ir68
  | 69 => some ir69
  | 70 => some ir70
  | 71 => some ir71
  | 72 => some ir72
  | 73 => some ir73
  | 74 => some ir74
  | 75 => some ir75
  | 79 => some ir79
  | 80 => some ir80
  | 81 => some ir81
  | 82 => some ir82
  | 83 => some ir83
  | 84 => some ir84
  | 85 => some ir85
  | 86 => some ir86
  | 87 => some ir87
  | 88 => some ir88
  | 89 => some ir89
  | 90 => some ir90
  | 91 => some ir91
  | 92 => some ir92
  | 94 => some ir94
  | 95 => some ir95
  | 97 => some ir97
  | 99 => some ir99
  | 100 => some ir100
  | 102 => some ir102
  | 103 => some ir103
  | 104 => some ir104
  | 105 => some ir105
  | 107 => some ir107
  | 108 => some ir108
  | 109 => some ir109
  | 110 => some ir110
  | 111 => some ir111
  | 112 => some ir112
  | 113 => some ir113
  | 114 => some ir114
  | 115 => some ir115
  | 116 => some ir116
  | 117 => some ir117
  | 118 => some ir118
  | 119 => some ir119
  | 120 => some ir120
  | 123 => some ir123
  | 124 => some ir124
  | 125 => some ir125
  | 127 => some ir127
  | 152 => some ir152
  | 153 => some ir153
  | 154 => some ir154
  | 155 => some ir155
  | _ => none
def E : Env := { fn := fnT, prim := fun f => if f = 93 then some insPrim else if f = 126 then some rfPrim else none }
abbrev kindsD : List D := [.str ⟨#[98, 111, 111, 108]⟩, .int .i64 1, .bool false, .bool false, .str ⟨#[117, 56]⟩, .int .i64 8, .bool true, .bool false, .str ⟨#[117, 49, 54]⟩, .int .i64 16, .bool true, .bool false, .str ⟨#[117, 51, 50]⟩, .int .i64 32, .bool true, .bool false, .str ⟨#[117, 54, 52]⟩, .int .i64 64, .bool true, .bool false, .str ⟨#[105, 56]⟩, .int .i64 8, .bool true, .bool true, .str ⟨#[105, 49, 54]⟩, .int .i64 16, .bool true, .bool true, .str ⟨#[105, 51, 50]⟩, .int .i64 32, .bool true, .bool true, .str ⟨#[105, 54, 52]⟩, .int .i64 64, .bool true, .bool true, .str ⟨#[102, 51, 50]⟩, .int .i64 32, .bool false, .bool false, .str ⟨#[99, 54, 52]⟩, .int .i64 64, .bool false, .bool false]
abbrev boundsD : List D := [.int .i64 0, .fn 152 [] [], .int .i64 1, .fn 153 [] [], .int .i64 2, .fn 155 [] []]
def glob : Nat → Option (List D) := fun g => if g = 0 then some boundsD else if g = 1 then some kindsD else none
theorem e4 : E.fn 4 = some ir4 := rfl
theorem p4 {n : Nat} {x0 x1 x2 : D} : callP (level E (n + 1)) 4 [x0, x1, x2] = pdC (fin [.v 3] (aCode (level E n) ⟨0, false⟩ c4 ⟨[.imm x0, .imm x1, .imm x2, .junk, .junk, .junk, .junk, .junk, .junk, .junk, .junk, .junk, .junk], [], none⟩)) := callP_go e4 rfl rfl rfl rfl
theorem e7 : E.fn 7 = some ir7 := rfl
theorem p7 {n : Nat} {x0 : D} : callP (level E (n + 1)) 7 [x0] = pdC (fin [.v 1] (aCode (level E n) ⟨0, false⟩ c7 ⟨[.imm x0, .junk, .junk, .junk, .junk, .junk], [], none⟩)) := callP_go e7 rfl rfl rfl rfl
theorem e8 : E.fn 8 = some ir8 := rfl
theorem p8 {n : Nat} : callP (level E (n + 1)) 8 [] = pdC (fin [.v 0] (aCode (level E n) ⟨0, false⟩ c8 ⟨[.junk, .junk, .junk, .junk, .junk, .junk, .junk, .junk, .junk, .junk, .junk, .junk, .junk, .junk, .junk, .junk, .junk, .junk, .junk, .junk, .junk, .junk, .junk, .junk, .junk, .junk, .junk, .junk, .junk, .junk, .junk, .junk], [], none⟩)) := callP_go e8 rfl rfl rfl rfl
theorem e9 : E.fn 9 = some ir9 := rfl
theorem p9 {n : Nat} {x0 : D} : callP (level E (n + 1)) 9 [x0] = pdC (fin [.v 1, .v 2] (aCode (level E n) ⟨0, false⟩ c9 ⟨[.imm x0, .junk, .junk, .junk, .junk, .junk], [], none⟩)) := callP_go e9 rfl rfl rfl rfl
theorem e10 : E.fn 10 = some ir10 := rfl
theorem p10 {n : Nat} {x0 : D} : callP (level E (n + 1)) 10 [x0] = pdC (fin [.cell 1 true 4] (aCode (level E n) ⟨0, false⟩ c10 ⟨[.imm x0, .junk, .junk], [], none⟩)) := callP_go e10 rfl rfl rfl rfl
theorem e13 : E.fn 13 = some ir13 := rfl
theorem p13 {n : Nat} {x0 : D} : callP (level E (n + 1)) 13 [x0] = pdC (fin [.v 1] (aCode (level E n) ⟨0, false⟩ c13 ⟨[.imm x0, .junk, .junk, .junk, .junk, .junk, .junk, .junk, .junk, .junk, .junk, .junk, .junk, .junk, .junk, .junk], [], none⟩)) := callP_go e13 rfl rfl rfl rfl
theorem e17 : E.fn 17 = some ir17 := rfl
theorem p17 {n : Nat} {x0 x1 : D} : callP (level E (n + 1)) 17 [x0, x1] = pdC (fin [.v 2] (aCode (level E n) ⟨0, false⟩ c17 ⟨[.imm x0, .imm x1, .junk, .junk, .junk, .junk, .junk], [], none⟩)) := callP_go e17 rfl rfl rfl rfl
theorem e19 : E.fn 19 = some ir19 := rfl
theorem p19 {n : Nat} {x0 x1 x2 x3 : D} : callP (level E (n + 1)) 19 [x0, x1, x2, x3] = pdC (fin [.cell 4 true 2, .v 5] (aCode (level E n) ⟨0, false⟩ c19 ⟨[.imm x0, .imm x1, .imm x2, .imm x3, .junk, .junk, .junk, .junk, .junk, .junk, .junk, .junk, .junk, .junk, .junk, .junk, .junk, .junk], [], none⟩)) := callP_go e19 rfl rfl rfl rfl
theorem e20 : E.fn 20 = some ir20 := rfl
theorem p20 {n : Nat} {x0 : D} : callP (level E (n + 1)) 20 [x0] = pdC (fin [.v 1] (aCode (level E n) ⟨0, false⟩ c20 ⟨[.imm x0, .junk], [], none⟩)) := callP_go e20 rfl rfl rfl rfl
theorem e21 : E.fn 21 = some ir21 := rfl
theorem p21 {n : Nat} {x0 x1 x2 x3 : D} : callP (level E (n + 1)) 21 [x0, x1, x2, x3] = pdC (fin [.v 4] (aCode (level E n) ⟨0, false⟩ c21 ⟨[.imm x0, .imm x1, .imm x2, .imm x3, .junk, .junk, .junk, .junk, .junk, .junk, .junk, .junk, .junk], [], none⟩)) := callP_go e21 rfl rfl rfl rfl
theorem e22 : E.fn 22 = some ir22 := rfl
theorem p22 {n : Nat} {x0 x1 x2 x3 : D} : callP (level E (n + 1)) 22 [x0, x1, x2, x3] = pdC (fin [.cell 4 true 2] (aCode (level E n) ⟨0, false⟩ c22 ⟨[.imm x0, .imm x1, .imm x2, .imm x3, .junk, .junk, .junk, .junk, .junk, .junk, .junk, .junk], [], none⟩)) := callP_go e22 rfl rfl rfl rfl
theorem e25 : E.fn 25 = some ir25 := rfl
theorem p25 {n : Nat} {x0 x1 : D} : callP (level E (n + 1)) 25 [x0, x1] = pdC (fin [.cell 2 true 4, .v 3] (aCode (level E n) ⟨0, false⟩ c25 ⟨[.imm x0, .imm x1, .junk, .junk, .junk, .junk, .junk, .junk], [], none⟩)) := callP_go e25 rfl rfl rfl rfl
theorem e26 : E.fn 26 = some ir26 := rfl
theorem p26 {n : Nat} {x0 : D} : callP (level E (n + 1)) 26 [x0] = pdC (fin [.v 1] (aCode (level E n) ⟨0, false⟩ c26 ⟨[.imm x0, .junk], [], none⟩)) := callP_go e26 rfl rfl rfl rfl
theorem e27 : E.fn 27 = some ir27 := rfl
theorem p27 {n : Nat} {x0 x1 x2 : D} : callP (level E (n + 1)) 27 [x0, x1, x2] = pdC (fin [.cell 3 true 4, .v 4] (aCode (level E n) ⟨0, false⟩ c27 ⟨[.imm x0, .imm x1, .imm x2, .junk, .junk, .junk, .junk, .junk, .junk, .junk, .junk, .junk], [], none⟩)) := callP_go e27 rfl rfl rfl rfl
theorem e28 : E.fn 28 = some ir28 := rfl
theorem p28 {n : Nat} {x0 x1 x2 : D} : callP (level E (n + 1)) 28 [x0, x1, x2] = pdC (fin [.cell 3 true 4, .v 4] (aCode (level E n) ⟨0, false⟩ c28 ⟨[.imm x0, .imm x1, .imm x2, .junk, .junk, .junk, .junk, .junk, .junk, .junk, .junk], [], none⟩)) := callP_go e28 rfl rfl rfl rfl
theorem e29 : E.fn 29 = some ir29 := rfl
theorem p29 {n : Nat} {x0 : D} : callP (level E (n + 1)) 29 [x0] = pdC (fin [.v 1] (aCode (level E n) ⟨0, false⟩ c29 ⟨[.imm x0, .junk, .junk, .junk, .junk], [], none⟩)) := callP_go e29 rfl rfl rfl rfl
theorem e30 : E.fn 30 = some ir30 := rfl
theorem p30 {n : Nat} {x0 : D} : callP (level E (n + 1)) 30 [x0] = pdC (fin [.v 1] (aCode (level E n) ⟨0, false⟩ c30 ⟨[.imm x0, .junk, .junk, .junk, .junk, .junk, .junk], [], none⟩)) := callP_go e30 rfl rfl rfl rfl
theorem e32 : E.fn 32 = some ir32 := rfl
theorem p32 {n : Nat} {x0 x1 : D} : callP (level E (n + 1)) 32 [x0, x1] = pdC (fin [.v 2] (aCode (level E n) ⟨0, false⟩ c32 ⟨[.imm x0, .imm x1, .junk, .junk], [], none⟩)) := callP_go e32 rfl rfl rfl rfl
theorem e38 : E.fn 38 = some ir38 := rfl
theorem p38 {n : Nat} {x0 : D} : callP (level E (n + 1)) 38 [x0] = pdC (fin [.v 1] (aCode (level E n) ⟨0, false⟩ c38 ⟨[.imm x0, .junk], [], none⟩)) := callP_go e38 rfl rfl rfl rfl
theorem e39 : E.fn 39 = some ir39 := rfl
theorem p39 {n : Nat} {x0 x1 : D} : callP (level E (n + 1)) 39 [x0, x1] = pdC (fin [.cell 2 true 2, .v 3] (aCode (level E n) ⟨0, false⟩ c39 ⟨[.imm x0, .imm x1, .junk, .junk, .junk, .junk, .junk], [], none⟩)) := callP_go e39 rfl rfl rfl rfl
theorem e42 : E.fn 42 = some ir42 := rfl
theorem p42 {n : Nat} {x0 : D} : callP (level E (n + 1)) 42 [x0] = pdC (fin [.v 1] (aCode (level E n) ⟨0, false⟩ c42 ⟨[.imm x0, .junk], [], none⟩)) := callP_go e42 rfl rfl rfl rfl
theorem e43 : E.fn 43 = some ir43 := rfl
theorem p43 {n : Nat} {x0 : D} : callP (level E (n + 1)) 43 [x0] = pdC (fin [.v 1] (aCode (level E n) ⟨0, false⟩ c43 ⟨[.imm x0, .junk, .junk, .junk, .junk], [], none⟩)) := callP_go e43 rfl rfl rfl rfl
theorem e44 : E.fn 44 = some ir44 := rfl
theorem p44 {n : Nat} {x0 : D} : callP (level E (n + 1)) 44 [x0] = pdC (fin [.v 1] (aCode (level E n) ⟨0, false⟩ c44 ⟨[.imm x0, .junk, .junk, .junk, .junk, .junk, .junk, .junk], [], none⟩)) := callP_go e44 rfl rfl rfl rfl
theorem e46 : E.fn 46 = some ir46 := rfl
theorem p46 {n : Nat} {x0 x1 : D} : callP (level E (n + 1)) 46 [x0, x1] = pdC (fin [.v 2] (aCode (level E n) ⟨0, false⟩ c46 ⟨[.imm x0, .imm x1, .junk], [], none⟩)) := callP_go e46 rfl rfl rfl rfl
theorem e47 : E.fn 47 = some ir47 := rfl
theorem p47 {n : Nat} {x0 x1 : D} : callP (level E (n + 1)) 47 [x0, x1] = pdC (fin [.v 2] (aCode (level E n) ⟨0, false⟩ c47 ⟨[.imm x0, .imm x1, .junk, .junk, .junk, .junk], [], none⟩)) := callP_go e47 rfl rfl rfl rfl
theorem e48 : E.fn 48 = some ir48 := rfl
theorem p48 {n : Nat} {x0 x1 : D} : callP (level E (n + 1)) 48 [x0, x1] = pdC (fin [.v 2] (aCode (level E n) ⟨0, false⟩ c48 ⟨[.imm x0, .imm x1, .junk, .junk], [], none⟩)) := callP_go e48 rfl rfl rfl rfl
theorem e50 : E.fn 50 = some ir50 := rfl
theorem p50 {n : Nat} {x0 : D} : callP (level E (n + 1)) 50 [x0] = pdC (fin [.v 1] (aCode (level E n) ⟨0, false⟩ c50 ⟨[.imm x0, .junk, .junk, .junk, .junk, .junk, .junk, .junk, .junk, .junk, .junk, .junk, .junk, .junk, .junk, .junk, .junk, .junk, .junk], [], none⟩)) := callP_go e50 rfl rfl rfl rfl
theorem e52 : E.fn 52 = some ir52 := rfl
theorem p52 {n : Nat} {x0 : D} : callP (level E (n + 1)) 52 [x0] = pdC (fin [.v 1, .v 2] (aCode (level E n) ⟨0, false⟩ c52 ⟨[.imm x0, .junk, .junk, .junk, .junk, .junk, .junk, .junk, .junk, .junk, .junk], [], none⟩)) := callP_go e52 rfl rfl rfl rfl
theorem e53 : E.fn 53 = some ir53 := rfl
theorem p53 {n : Nat} : callP (level E (n + 1)) 53 [] = pdC (fin [.v 0] (aCode (level E n) ⟨0, false⟩ c53 ⟨[.junk], [], none⟩)) := callP_go e53 rfl rfl rfl rfl
theorem e54 : E.fn 54 = some ir54 := rfl
theorem p54 {n : Nat} {x0 x1 : D} : callP (level E (n + 1)) 54 [x0, x1] = pdC (fin [.v 2, .v 3] (aCode (level E n) ⟨0, false⟩ c54 ⟨[.imm x0, .imm x1, .junk, .junk, .junk, .junk, .junk], [], none⟩)) := callP_go e54 rfl rfl rfl rfl
theorem e55 : E.fn 55 = some ir55 := rfl
theorem p55 {n : Nat} {x0 x1 : D} : callP (level E (n + 1)) 55 [x0, x1] = pdC (fin [.v 2, .v 3] (aCode (level E n) ⟨0, false⟩ c55 ⟨[.imm x0, .imm x1, .junk, .junk, .junk, .junk], [], none⟩)) := callP_go e55 rfl rfl rfl rfl
theorem e56 : E.fn 56 = some ir56 := rfl
theorem p56 {n : Nat} {x0 x1 : D} : callP (level E (n + 1)) 56 [x0, x1] = pdC (fin [.v 2, .v 3] (aCode (level E n) ⟨0, false⟩ c56 ⟨[.imm x0, .imm x1, .junk, .junk, .junk, .junk, .junk, .junk, .junk, .junk], [], none⟩)) := callP_go e56 rfl rfl rfl rfl
theorem e57 : E.fn 57 = some ir57 := rfl
theorem p57 {n : Nat} : callP (level E (n + 1)) 57 [] = pdC (fin [.cell 0 true 4] (aCode (level E n) ⟨0, false⟩ c57 ⟨[.junk], [], none⟩)) := callP_go e57 rfl rfl rfl rfl
theorem e58 : E.fn 58 = some ir58 := rfl
theorem p58 {n : Nat} {x0 x1 : D} : callP (level E (n + 1)) 58 [x0, x1] = pdC (fin [.v 2] (aCode (level E n) ⟨0, false⟩ c58 ⟨[.imm x0, .imm x1, .junk, .junk, .junk, .junk, .junk], [], none⟩)) := callP_go e58 rfl rfl rfl rfl
theorem e59 : E.fn 59 = some ir59 := rfl
theorem p59 {n : Nat} {x0 x1 : D} : callP (level E (n + 1)) 59 [x0, x1] = pdC (fin [.v 2] (aCode (level E n) ⟨0, false⟩ c59 ⟨[.imm x0, .imm x1, .junk, .junk, .junk, .junk, .junk], [], none⟩)) := callP_go e59 rfl rfl rfl rfl
theorem e60 : E.fn 60 = some ir60 := rfl
theorem p60 {n : Nat} {x0 x1 : D} : callP (level E (n + 1)) 60 [x0, x1] = pdC (fin [.v 2] (aCode (level E n) ⟨0, false⟩ c60 ⟨[.imm x0, .imm x1, .junk, .junk, .junk, .junk, .junk], [], none⟩)) := callP_go e60 rfl rfl rfl rfl
theorem e61 : E.fn 61 = some ir61 := rfl
theorem p61 {n : Nat} {x0 : D} : callP (level E (n + 1)) 61 [x0] = pdC (fin [.v 1] (aCode (level E n) ⟨0, false⟩ c61 ⟨[.imm x0, .junk, .junk, .junk, .junk, .junk, .junk, .junk, .junk, .junk, .junk, .junk, .junk], [], none⟩)) := callP_go e61 rfl rfl rfl rfl
theorem e62 : E.fn 62 = some ir62 := rfl
theorem p62 {n : Nat} {x0 : D} : callP (level E (n + 1)) 62 [x0] = pdC (fin [.v 1] (aCode (level E n) ⟨0, false⟩ c62 ⟨[.imm x0, .junk], [], none⟩)) := callP_go e62 rfl rfl rfl rfl
theorem e64 : E.fn 64 = some ir64 := rfl
theorem p64 {n : Nat} {x0 x1 : D} : callP (level E (n + 1)) 64 [x0, x1] = pdC (fin [.v 2] (aCode (level E n) ⟨0, false⟩ c64 ⟨[.imm x0, .imm x1, .junk, .junk], [], none⟩)) := callP_go e64 rfl rfl rfl rfl
theorem e65 : E.fn 65 = some ir65 := rfl
theorem p65 {n : Nat} {x0 : D} : callP (level E (n + 1)) 65 [x0] = pdC (fin [.v 1] (aCode (level E n) ⟨0, false⟩ c65 ⟨[.imm x0, .junk, .junk, .junk, .junk, .junk, .junk, .junk], [], none⟩)) := callP_go e65 rfl rfl rfl rfl
theorem e66 : E.fn 66 = some ir66 := rfl
theorem p66 {n : Nat} {x0 : D} : callP (level E (n + 1)) 66 [x0] = pdC (fin [.v 1] (aCode (level E n) ⟨0, false⟩ c66 ⟨[.imm x0, .junk], [], none⟩)) := callP_go e66 rfl rfl rfl rfl
theorem e67 : E.fn 67 = some ir67 := rfl
theorem p67 {n : Nat} {x0 x1 x2 : D} : callP (level E (n + 1)) 67 [x0, x1, x2] = pdC (fin [.v 3] (aCode (level E n) ⟨0, false⟩ c67 ⟨[.imm x0, .imm x1, .imm x2, .junk], [], none⟩)) := callP_go e67 rfl rfl rfl rfl
theorem e68 : E.fn 68 = some ir68 := rfl
theorem p68 {n : Nat} {x0 : D} : callP (level E (n + 1)) 68 [x0] = pdC (fin [.v 1] (aCode (level E n) ⟨0, false⟩ c68 ⟨[.imm x0, .junk, .junk], [], none⟩)) := callP_go e68 rfl rfl rfl rfl
theorem e69 : E.fn 69 = some ir69 := rfl
theorem p69 {n : Nat} {x0 : D} : callP (level E (n + 1)) 69 [x0] = pdC (fin [.v 1] (aCode (level E n) ⟨0, false⟩ c69 ⟨[.imm x0, .junk, .junk, .junk, .junk, .junk, .junk, .junk, .junk], [], none⟩)) := callP_go e69 rfl rfl rfl rfl
theorem e70 : E.fn 70 = some ir70 := rfl
theorem p70 {n : Nat} {x0 : D} : callP (level E (n + 1)) 70 [x0] = pdC (fin [.v 1] (aCode (level E n) ⟨0, false⟩ c70 ⟨[.imm x0, .junk, .junk, .junk, .junk, .junk, .junk, .junk], [], none⟩)) := callP_go e70 rfl rfl rfl rfl
theorem e71 : E.fn 71 = some ir71 := rfl
theorem p71 {n : Nat} {x0 : D} : callP (level E (n + 1)) 71 [x0] = pdC (fin [.v 1] (aCode (level E n) ⟨0, false⟩ c71 ⟨[.imm x0, .junk, .junk, .junk, .junk], [], none⟩)) := callP_go e71 rfl rfl rfl rfl
theorem e72 : E.fn 72 = some ir72 := rfl
theorem p72 {n : Nat} {x0 x1 : D} : callP (level E (n + 1)) 72 [x0, x1] = pdC (fin [.v 2] (aCode (level E n) ⟨0, false⟩ c72 ⟨[.imm x0, .imm x1, .junk], [], none⟩)) := callP_go e72 rfl rfl rfl rfl
theorem e73 : E.fn 73 = some ir73 := rfl
theorem p73 {n : Nat} {x0 x1 : D} : callP (level E (n + 1)) 73 [x0, x1] = pdC (fin [.v 2] (aCode (level E n) ⟨0, false⟩ c73 ⟨[.imm x0, .imm x1, .junk, .junk, .junk, .junk], [], none⟩)) := callP_go e73 rfl rfl rfl rfl
theorem e74 : E.fn 74 = some ir74 := rfl
theorem p74 {n : Nat} {x0 x1 : D} : callP (level E (n + 1)) 74 [x0, x1] = pdC (fin [.v 2] (aCode (level E n) ⟨0, false⟩ c74 ⟨[.imm x0, .imm x1, .junk, .junk, .junk, .junk, .junk], [], none⟩)) := callP_go e74 rfl rfl rfl rfl
theorem e75 : E.fn 75 = some ir75 := rfl
theorem p75 {n : Nat} {x0 x1 : D} : callP (level E (n + 1)) 75 [x0, x1] = pdC (fin [.v 2] (aCode (level E n) ⟨0, false⟩ c75 ⟨[.imm x0, .imm x1, .junk, .junk, .junk, .junk], [], none⟩)) := callP_go e75 rfl rfl rfl rfl
theorem e79 : E.fn 79 = some ir79 := rfl
theorem p79 {n : Nat} {x0 : D} : callP (level E (n + 1)) 79 [x0] = pdC (fin [.v 1] (aCode (level E n) ⟨0, false⟩ c79 ⟨[.imm x0, .junk], [], none⟩)) := callP_go e79 rfl rfl rfl rfl
theorem e80 : E.fn 80 = some ir80 := rfl
theorem p80 {n : Nat} {x0 x1 : D} : callP (level E (n + 1)) 80 [x0, x1] = pdC (fin [.v 2] (aCode (level E n) ⟨0, false⟩ c80 ⟨[.imm x0, .imm x1, .junk], [], none⟩)) := callP_go e80 rfl rfl rfl rfl
theorem e81 : E.fn 81 = some ir81 := rfl
theorem p81 {n : Nat} {x0 : D} : callP (level E (n + 1)) 81 [x0] = pdC (fin [.v 1] (aCode (level E n) ⟨0, false⟩ c81 ⟨[.imm x0, .junk, .junk, .junk], [], none⟩)) := callP_go e81 rfl rfl rfl rfl
theorem e82 : E.fn 82 = some ir82 := rfl
theorem p82 {n : Nat} {x0 x1 x2 : D} : callP (level E (n + 1)) 82 [x0, x1, x2] = pdC (fin [.cell 3 true 3] (aCode (level E n) ⟨0, false⟩ c82 ⟨[.imm x0, .imm x1, .imm x2, .junk, .junk, .junk, .junk, .junk, .junk, .junk, .junk], [], none⟩)) := callP_go e82 rfl rfl rfl rfl
theorem e83 : E.fn 83 = some ir83 := rfl
theorem p83 {n : Nat} {x0 : D} : callP (level E (n + 1)) 83 [x0] = pdC (fin [.cell 1 true 3] (aCode (level E n) ⟨0, false⟩ c83 ⟨[.imm x0, .junk, .junk], [], none⟩)) := callP_go e83 rfl rfl rfl rfl
theorem e84 : E.fn 84 = some ir84 := rfl
theorem p84 {n : Nat} {x0 x1 : D} : callP (level E (n + 1)) 84 [x0, x1] = pdC (fin [.v 2] (aCode (level E n) ⟨0, false⟩ c84 ⟨[.imm x0, .imm x1, .junk, .junk, .junk], [], none⟩)) := callP_go e84 rfl rfl rfl rfl
theorem e85 : E.fn 85 = some ir85 := rfl
theorem p85 {n : Nat} {x0 x1 x2 : D} : callP (level E (n + 1)) 85 [x0, x1, x2] = pdC (fin [.v 3] (aCode (level E n) ⟨0, false⟩ c85 ⟨[.imm x0, .imm x1, .imm x2, .junk, .junk, .junk, .junk, .junk, .junk, .junk], [], none⟩)) := callP_go e85 rfl rfl rfl rfl
theorem e86 : E.fn 86 = some ir86 := rfl
theorem p86 {n : Nat} {x0 x1 x2 : D} : callP (level E (n + 1)) 86 [x0, x1, x2] = pdC (fin [.cell 3 true 4] (aCode (level E n) ⟨0, false⟩ c86 ⟨[.imm x0, .imm x1, .imm x2, .junk, .junk, .junk, .junk, .junk, .junk, .junk], [], none⟩)) := callP_go e86 rfl rfl rfl rfl
theorem e87 : E.fn 87 = some ir87 := rfl
theorem p87 {n : Nat} {x0 x1 : D} : callP (level E (n + 1)) 87 [x0, x1] = pdC (fin [.v 2] (aCode (level E n) ⟨0, false⟩ c87 ⟨[.imm x0, .imm x1, .junk, .junk, .junk, .junk, .junk, .junk, .junk], [], none⟩)) := callP_go e87 rfl rfl rfl rfl
theorem e88 : E.fn 88 = some ir88 := rfl
theorem p88 {n : Nat} {x0 x1 x2 : D} : callP (level E (n + 1)) 88 [x0, x1, x2] = pdC (fin [.v 3] (aCode (level E n) ⟨0, false⟩ c88 ⟨[.imm x0, .imm x1, .imm x2, .junk, .junk, .junk, .junk, .junk, .junk], [], none⟩)) := callP_go e88 rfl rfl rfl rfl
theorem e89 : E.fn 89 = some ir89 := rfl
theorem p89 {n : Nat} {x0 x1 : D} : callP (level E (n + 1)) 89 [x0, x1] = pdC (fin [.cell 2 true 2] (aCode (level E n) ⟨0, false⟩ c89 ⟨[.imm x0, .imm x1, .junk, .junk, .junk, .junk], [], none⟩)) := callP_go e89 rfl rfl rfl rfl
theorem e90 : E.fn 90 = some ir90 := rfl
theorem s90 {n : Nat} {x0 x1 x2 : AV} {st : List AO} : callS (level E (n + 1)) 90 [x0, x1, x2] st = psC st.length (fin [.v 3] (aCode (level E n) ⟨st.length, false⟩ c90 ⟨[x0, x1, x2, .junk, .junk, .junk], st, none⟩)) := callS_go e90 rfl rfl rfl rfl
theorem e91 : E.fn 91 = some ir91 := rfl
theorem i91 {n : Nat} {x0 : D} : callI (level E (n + 1)) 91 [x0] = piC (fin [.v 1] (aCode (level E n) ⟨0, false⟩ c91 ⟨[.imm x0, .junk, .junk], [], none⟩)) := callI_go e91 rfl rfl rfl rfl
theorem e92 : E.fn 92 = some ir92 := rfl
theorem p92 {n : Nat} {x0 x1 x2 x3 : D} : callP (level E (n + 1)) 92 [x0, x1, x2, x3] = pdC (fin [.v 4] (aCode (level E n) ⟨0, false⟩ c92 ⟨[.imm x0, .imm x1, .imm x2, .imm x3, .junk, .junk], [], none⟩)) := callP_go e92 rfl rfl rfl rfl
theorem e94 : E.fn 94 = some ir94 := rfl
theorem i94 {n : Nat} {x0 : D} : callI (level E (n + 1)) 94 [x0] = piC (fin [.v 1] (aCode (level E n) ⟨0, false⟩ c94 ⟨[.imm x0, .junk, .junk], [], none⟩)) := callI_go e94 rfl rfl rfl rfl
theorem e95 : E.fn 95 = some ir95 := rfl
theorem p95 {n : Nat} {x0 x1 x2 x3 : D} : callP (level E (n + 1)) 95 [x0, x1, x2, x3] = pdC (fin [.v 4] (aCode (level E n) ⟨0, false⟩ c95 ⟨[.imm x0, .imm x1, .imm x2, .imm x3, .junk, .junk], [], none⟩)) := callP_go e95 rfl rfl rfl rfl
theorem e97 : E.fn 97 = some ir97 := rfl
theorem p97 {n : Nat} {x0 x1 : D} : callP (level E (n + 1)) 97 [x0, x1] = pdC (fin [.v 2] (aCode (level E n) ⟨0, false⟩ c97 ⟨[.imm x0, .imm x1, .junk, .junk], [], none⟩)) := callP_go e97 rfl rfl rfl rfl
theorem e99 : E.fn 99 = some ir99 := rfl
theorem p99 {n : Nat} {x0 x1 : D} : callP (level E (n + 1)) 99 [x0, x1] = pdC (fin [.v 2] (aCode (level E n) ⟨0, false⟩ c99 ⟨[.imm x0, .imm x1, .junk, .junk, .junk, .junk], [], none⟩)) := callP_go e99 rfl rfl rfl rfl
theorem e100 : E.fn 100 = some ir100 := rfl
theorem p100 {n : Nat} {x0 x1 x2 : D} : callP (level E (n + 1)) 100 [x0, x1, x2] = pdC (fin [.v 3] (aCode (level E n) ⟨0, false⟩ c100 ⟨[.imm x0, .imm x1, .imm x2, .junk, .junk, .junk, .junk, .junk, .junk, .junk, .junk, .junk], [], none⟩)) := callP_go e100 rfl rfl rfl rfl
theorem e102 : E.fn 102 = some ir102 := rfl
theorem p102 {n : Nat} {x0 : D} : callP (level E (n + 1)) 102 [x0] = pdC (fin [.v 1] (aCode (level E n) ⟨0, false⟩ c102 ⟨[.imm x0, .junk, .junk], [], none⟩)) := callP_go e102 rfl rfl rfl rfl
theorem e103 : E.fn 103 = some ir103 := rfl
theorem p103 {n : Nat} {x0 : D} : callP (level E (n + 1)) 103 [x0] = pdC (fin [.v 1] (aCode (level E n) ⟨0, false⟩ c103 ⟨[.imm x0, .junk, .junk, .junk, .junk], [], none⟩)) := callP_go e103 rfl rfl rfl rfl
theorem e104 : E.fn 104 = some ir104 := rfl
theorem p104 {n : Nat} {x0 : D} : callP (level E (n + 1)) 104 [x0] = pdC (fin [.v 1] (aCode (level E n) ⟨0, false⟩ c104 ⟨[.imm x0, .junk], [], none⟩)) := callP_go e104 rfl rfl rfl rfl
theorem e105 : E.fn 105 = some ir105 := rfl
theorem p105 {n : Nat} {x0 : D} : callP (level E (n + 1)) 105 [x0] = pdC (fin [.v 1] (aCode (level E n) ⟨0, false⟩ c105 ⟨[.imm x0, .junk], [], none⟩)) := callP_go e105 rfl rfl rfl rfl
theorem e107 : E.fn 107 = some ir107 := rfl
theorem p107 {n : Nat} {x0 : D} : callP (level E (n + 1)) 107 [x0] = pdC (fin [.v 1] (aCode (level E n) ⟨0, false⟩ c107 ⟨[.imm x0, .junk], [], none⟩)) := callP_go e107 rfl rfl rfl rfl
theorem e108 : E.fn 108 = some ir108 := rfl
theorem p108 {n : Nat} {x0 x1 : D} : callP (level E (n + 1)) 108 [x0, x1] = pdC (fin [.v 2] (aCode (level E n) ⟨0, false⟩ c108 ⟨[.imm x0, .imm x1, .junk], [], none⟩)) := callP_go e108 rfl rfl rfl rfl
theorem e109 : E.fn 109 = some ir109 := rfl
theorem p109 {n : Nat} {x0 x1 : D} : callP (level E (n + 1)) 109 [x0, x1] = pdC (fin [.v 2] (aCode (level E n) ⟨0, false⟩ c109 ⟨[.imm x0, .imm x1, .junk, .junk, .junk, .junk, .junk, .junk, .junk, .junk], [], none⟩)) := callP_go e109 rfl rfl rfl rfl
theorem e110 : E.fn 110 = some ir110 := rfl
theorem p110 {n : Nat} {x0 x1 : D} : callP (level E (n + 1)) 110 [x0, x1] = pdC (fin [.v 2] (aCode (level E n) ⟨0, false⟩ c110 ⟨[.imm x0, .imm x1, .junk], [], none⟩)) := callP_go e110 rfl rfl rfl rfl
theorem e111 : E.fn 111 = some ir111 := rfl
theorem p111 {n : Nat} {x0 x1 : D} : callP (level E (n + 1)) 111 [x0, x1] = pdC (fin [.cell 2 true 2] (aCode (level E n) ⟨0, false⟩ c111 ⟨[.imm x0, .imm x1, .junk, .junk, .junk, .junk], [], none⟩)) := callP_go e111 rfl rfl rfl rfl
theorem e112 : E.fn 112 = some ir112 := rfl
theorem s112 {n : Nat} {x0 x1 x2 : AV} {st : List AO} : callS (level E (n + 1)) 112 [x0, x1, x2] st = psC st.length (fin [.v 3] (aCode (level E n) ⟨st.length, false⟩ c112 ⟨[x0, x1, x2, .junk, .junk, .junk, .junk], st, none⟩)) := callS_go e112 rfl rfl rfl rfl
theorem e113 : E.fn 113 = some ir113 := rfl
theorem p113 {n : Nat} {x0 x1 : D} : callP (level E (n + 1)) 113 [x0, x1] = pdC (fin [.v 2] (aCode (level E n) ⟨0, false⟩ c113 ⟨[.imm x0, .imm x1, .junk, .junk], [], none⟩)) := callP_go e113 rfl rfl rfl rfl
theorem e114 : E.fn 114 = some ir114 := rfl
theorem p114 {n : Nat} {x0 : D} : callP (level E (n + 1)) 114 [x0] = pdC (fin [.v 1] (aCode (level E n) ⟨0, false⟩ c114 ⟨[.imm x0, .junk], [], none⟩)) := callP_go e114 rfl rfl rfl rfl
theorem e115 : E.fn 115 = some ir115 := rfl
theorem p115 {n : Nat} {x0 x1 : D} : callP (level E (n + 1)) 115 [x0, x1] = pdC (fin [.v 2] (aCode (level E n) ⟨0, false⟩ c115 ⟨[.imm x0, .imm x1, .junk, .junk, .junk, .junk, .junk, .junk, .junk], [], none⟩)) := callP_go e115 rfl rfl rfl rfl
theorem e116 : E.fn 116 = some ir116 := rfl
theorem p116 {n : Nat} {x0 : D} : callP (level E (n + 1)) 116 [x0] = pdC (fin [.v 1] (aCode (level E n) ⟨0, false⟩ c116 ⟨[.imm x0, .junk, .junk], [], none⟩)) := callP_go e116 rfl rfl rfl rfl
theorem e117 : E.fn 117 = some ir117 := rfl
theorem p117 {n : Nat} {x0 : D} : callP (level E (n + 1)) 117 [x0] = pdC (fin [.v 1, .v 2] (aCode (level E n) ⟨0, false⟩ c117 ⟨[.imm x0, .junk, .junk, .junk], [], none⟩)) := callP_go e117 rfl rfl rfl rfl
theorem e118 : E.fn 118 = some ir118 := rfl
theorem p118 {n : Nat} {x0 x1 : D} : callP (level E (n + 1)) 118 [x0, x1] = pdC (fin [.v 2] (aCode (level E n) ⟨0, false⟩ c118 ⟨[.imm x0, .imm x1, .junk, .junk, .junk, .junk, .junk, .junk], [], none⟩)) := callP_go e118 rfl rfl rfl rfl
theorem e119 : E.fn 119 = some ir119 := rfl
theorem p119 {n : Nat} {x0 x1 : D} : callP (level E (n + 1)) 119 [x0, x1] = pdC (fin [.v 2] (aCode (level E n) ⟨0, false⟩ c119 ⟨[.imm x0, .imm x1, .junk, .junk, .junk, .junk], [], none⟩)) := callP_go e119 rfl rfl rfl rfl
theorem e120 : E.fn 120 = some ir120 := rfl
theorem p120 {n : Nat} {x0 x1 : D} : callP (level E (n + 1)) 120 [x0, x1] = pdC (fin [.v 2] (aCode (level E n) ⟨0, false⟩ c120 ⟨[.imm x0, .imm x1, .junk], [], none⟩)) := callP_go e120 rfl rfl rfl rfl
theorem e123 : E.fn 123 = some ir123 := rfl
theorem p123 {n : Nat} {x0 x1 : D} : callP (level E (n + 1)) 123 [x0, x1] = pdC (fin [.v 2] (aCode (level E n) ⟨0, false⟩ c123 ⟨[.imm x0, .imm x1, .junk, .junk, .junk, .junk, .junk, .junk, .junk], [], none⟩)) := callP_go e123 rfl rfl rfl rfl
theorem e124 : E.fn 124 = some ir124 := rfl
theorem p124 {n : Nat} {x0 x1 : D} : callP (level E (n + 1)) 124 [x0, x1] = pdC (fin [.v 2] (aCode (level E n) ⟨0, false⟩ c124 ⟨[.imm x0, .imm x1, .junk], [], none⟩)) := callP_go e124 rfl rfl rfl rfl
theorem e125 : E.fn 125 = some ir125 := rfl
theorem e127 : E.fn 127 = some ir127 := rfl
theorem p127 {n : Nat} {x0 : D} : callP (level E (n + 1)) 127 [x0] = pdC (fin [.v 1] (aCode (level E n) ⟨0, false⟩ c127 ⟨[.imm x0, .junk, .junk], [], none⟩)) := callP_go e127 rfl rfl rfl rfl
theorem e152 : E.fn 152 = some ir152 := rfl
theorem p152 {n : Nat} {x0 x1 : D} : callP (level E (n + 1)) 152 [x0, x1] = pdC (fin [.v 2] (aCode (level E n) ⟨0, false⟩ c152 ⟨[.imm x0, .imm x1, .junk, .junk], [], none⟩)) := callP_go e152 rfl rfl rfl rfl
theorem e153 : E.fn 153 = some ir153 := rfl
theorem p153 {n : Nat} {x0 x1 : D} : callP (level E (n + 1)) 153 [x0, x1] = pdC (fin [.v 2] (aCode (level E n) ⟨0, false⟩ c153 ⟨[.imm x0, .imm x1, .junk, .junk], [], none⟩)) := callP_go e153 rfl rfl rfl rfl
theorem e154 : E.fn 154 = some ir154 := rfl
theorem p154 {n : Nat} {x0 x1 : D} : callP (level E (n + 1)) 154 [x0, x1] = pdC (fin [.v 2] (aCode (level E n) ⟨0, false⟩ c154 ⟨[.imm x0, .imm x1, .junk], [], none⟩)) := callP_go e154 rfl rfl rfl rfl
theorem e155 : E.fn 155 = some ir155 := rfl
theorem p155 {n : Nat} {x0 x1 : D} : callP (level E (n + 1)) 155 [x0, x1] = pdC (fin [.v 2] (aCode (level E n) ⟨0, false⟩ c155 ⟨[.imm x0, .imm x1, .junk, .junk, .junk], [], none⟩)) := callP_go e155 rfl rfl rfl rfl
theorem u7_0 {lo : Lower} {cx : Cx} {s : S} : aCode lo cx b7_0 s = aCode lo cx d7_0 s := id rfl
theorem u8_0 {lo : Lower} {cx : Cx} {s : S} : aCode lo cx b8_0 s = aCode lo cx d8_0 s := id rfl
theorem u13_0 {lo : Lower} {cx : Cx} {s : S} : aCode lo cx b13_0 s = aCode lo cx d13_0 s := id rfl
theorem u13_1 {lo : Lower} {cx : Cx} {s : S} : aCode lo cx b13_1 s = aCode lo cx d13_1 s := id rfl
theorem u17_0 {lo : Lower} {cx : Cx} {s : S} : aCode lo cx b17_0 s = aCode lo cx d17_0 s := id rfl
theorem u21_0 {lo : Lower} {cx : Cx} {s : S} : aCode lo cx b21_0 s = aCode lo cx d21_0 s := id rfl
theorem u22_0 {lo : Lower} {cx : Cx} {s : S} : aCode lo cx b22_0 s = aCode lo cx d22_0 s := id rfl
theorem u29_0 {lo : Lower} {cx : Cx} {s : S} : aCode lo cx b29_0 s = aCode lo cx d29_0 s := id rfl
theorem u30_0 {lo : Lower} {cx : Cx} {s : S} : aCode lo cx b30_0 s = aCode lo cx d30_0 s := id rfl
theorem u43_0 {lo : Lower} {cx : Cx} {s : S} : aCode lo cx b43_0 s = aCode lo cx d43_0 s := id rfl
theorem u47_0 {lo : Lower} {cx : Cx} {s : S} : aCode lo cx b47_0 s = aCode lo cx d47_0 s := id rfl
theorem u50_0 {lo : Lower} {cx : Cx} {s : S} : aCode lo cx b50_0 s = aCode lo cx d50_0 s := id rfl
theorem u50_1 {lo : Lower} {cx : Cx} {s : S} : aCode lo cx b50_1 s = aCode lo cx d50_1 s := id rfl
theorem u52_0 {lo : Lower} {cx : Cx} {s : S} : aCode lo cx b52_0 s = aCode lo cx d52_0 s := id rfl
theorem u52_1 {lo : Lower} {cx : Cx} {s : S} : aCode lo cx b52_1 s = aCode lo cx d52_1 s := id rfl
theorem u58_0 {lo : Lower} {cx : Cx} {s : S} : aCode lo cx b58_0 s = aCode lo cx d58_0 s := id rfl
theorem u59_0 {lo : Lower} {cx : Cx} {s : S} : aCode lo cx b59_0 s = aCode lo cx d59_0 s := id rfl
theorem u60_0 {lo : Lower} {cx : Cx} {s : S} : aCode lo cx b60_0 s = aCode lo cx d60_0 s := id rfl
theorem u61_0 {lo : Lower} {cx : Cx} {s : S} : aCode lo cx b61_0 s = aCode lo cx d61_0 s := id rfl
theorem u61_1 {lo : Lower} {cx : Cx} {s : S} : aCode lo cx b61_1 s = aCode lo cx d61_1 s := id rfl
theorem u61_2 {lo : Lower} {cx : Cx} {s : S} : aCode lo cx b61_2 s = aCode lo cx d61_2 s := id rfl
theorem u65_0 {lo : Lower} {cx : Cx} {s : S} : aCode lo cx b65_0 s = aCode lo cx d65_0 s := id rfl
theorem u69_0 {lo : Lower} {cx : Cx} {s : S} : aCode lo cx b69_0 s = aCode lo cx d69_0 s := id rfl
theorem u70_0 {lo : Lower} {cx : Cx} {s : S} : aCode lo cx b70_0 s = aCode lo cx d70_0 s := id rfl
theorem u71_0 {lo : Lower} {cx : Cx} {s : S} : aCode lo cx b71_0 s = aCode lo cx d71_0 s := id rfl
theorem u73_0 {lo : Lower} {cx : Cx} {s : S} : aCode lo cx b73_0 s = aCode lo cx d73_0 s := id rfl
theorem u74_0 {lo : Lower} {cx : Cx} {s : S} : aCode lo cx b74_0 s = aCode lo cx d74_0 s := id rfl
theorem u75_0 {lo : Lower} {cx : Cx} {s : S} : aCode lo cx b75_0 s = aCode lo cx d75_0 s := id rfl
theorem u82_0 {lo : Lower} {cx : Cx} {s : S} : aCode lo cx b82_0 s = aCode lo cx d82_0 s := id rfl
theorem u86_0 {lo : Lower} {cx : Cx} {s : S} : aCode lo cx b86_0 s = aCode lo cx d86_0 s := id rfl
theorem u86_1 {lo : Lower} {cx : Cx} {s : S} : aCode lo cx b86_1 s = aCode lo cx d86_1 s := id rfl
theorem u87_0 {lo : Lower} {cx : Cx} {s : S} : aCode lo cx b87_0 s = aCode lo cx d87_0 s := id rfl
theorem u88_0 {lo : Lower} {cx : Cx} {s : S} : aCode lo cx b88_0 s = aCode lo cx d88_0 s := id rfl
theorem u100_0 {lo : Lower} {cx : Cx} {s : S} : aCode lo cx b100_0 s = aCode lo cx d100_0 s := id rfl
theorem u103_0 {lo : Lower} {cx : Cx} {s : S} : aCode lo cx b103_0 s = aCode lo cx d103_0 s := id rfl
theorem u109_0 {lo : Lower} {cx : Cx} {s : S} : aCode lo cx b109_0 s = aCode lo cx d109_0 s := id rfl
theorem u112_0 {lo : Lower} {cx : Cx} {s : S} : aCode lo cx b112_0 s = aCode lo cx d112_0 s := id rfl
theorem u115_0 {lo : Lower} {cx : Cx} {s : S} : aCode lo cx b115_0 s = aCode lo cx d115_0 s := id rfl
theorem u118_0 {lo : Lower} {cx : Cx} {s : S} : aCode lo cx b118_0 s = aCode lo cx d118_0 s := id rfl
theorem u123_0 {lo : Lower} {cx : Cx} {s : S} : aCode lo cx b123_0 s = aCode lo cx d123_0 s := id rfl
theorem u125_0 {lo : Lower} {cx : Cx} {s : S} : aCode lo cx b125_0 s = aCode lo cx d125_0 s := id rfl
theorem u125_1 {lo : Lower} {cx : Cx} {s : S} : aCode lo cx b125_1 s = aCode lo cx d125_1 s := id rfl
theorem u125_2 {lo : Lower} {cx : Cx} {s : S} : aCode lo cx b125_2 s = aCode lo cx d125_2 s := id rfl
attribute [go_sem]
  u7_0 d7_0 u8_0 d8_0 u13_0 d13_0 u13_1 d13_1 u17_0 d17_0 u21_0 d21_0 u22_0 d22_0 u29_0 d29_0 u30_0 d30_0
  u43_0 d43_0 u47_0 d47_0 u50_0 d50_0 u50_1 d50_1 u52_0 d52_0 u52_1 d52_1 u58_0 d58_0 u59_0 d59_0 u60_0 d60_0 u61_0 d61_0 u61_1 d61_1 u61_2 d61_2
  u65_0 d65_0 u69_0 d69_0 u70_0 d70_0 u71_0 d71_0 u73_0 d73_0 u74_0 d74_0 u75_0 d75_0 u82_0 d82_0 u86_0 d86_0 u86_1 d86_1 u87_0 d87_0 u88_0 d88_0 u100_0 d100_0 u103_0 d103_0 u109_0 d109_0 u112_0 d112_0
  u115_0 d115_0 u118_0 d118_0 u123_0 d123_0 u125_0 d125_0 u125_1 d125_1 u125_2 d125_2 c4 c7 c8 c9 c10 c13
  c17 c19 c20 c21 c22 c25 c26 c27 c28 c29 c30 c32
  c38 c39 c42 c43 c44 c46 c47 c48 c50 c52 c53 c54 c55 c56
  c57 c58 c59 c60 c61 c62 c64 c65 c66 c67 c68 c69 c70 c71 c72 c73 c74 c75
  c79 c80 c81 c82 c83 c84 c85 c86 c87 c88 c89 c90 c91 c92 c94 c95 c97
  c99 c100 c102 c103 c104 c105 c107 c108 c109 c110 c111 c112 c113 c114 c115 c116 c117
  c118 c119 c120 c123 c124 c125 c127 c152 c153 c154 c155
end Go.Vm.P4Z

/- How plain data and own blocks stand for the model's values and memory; what stays true when memory grows. -/
namespace Go.Vm
open Go
inductive RepD (F : Nat → Prop) (W : World) : D → Value → Prop
  | int (k : IntKind) (n : Int) : RepD F W (.int k n) (.int k n)
  | bool (b : Bool) : RepD F W (.bool b) (.bool b)
  | str (s : ByteArray) : RepD F W (.str s) (.string s)
  | nil : RepD F W .nil (.slice none 0 0)
  | nilp : RepD F W .nilp (.pointer none)
  | nilf : RepD F W .nilf .nilFunc
  | nilm : RepD F W .nilm (.map none)
  | sl (sz : Nat) (es : List (List D)) (a : Addr) (cap : Nat) (c : Nat → Nat → Value) (ha : es ≠ [] → a.spot = none) (hn : es.length ≤ cap) (hz : ∀ e ∈ es, e.length = sz)
      (hc : ∀ i e j d, es[i]? = some e → e[j]? = some d → F a.block ∧ W.cell? ⟨a.block, a.off + (i * sz + j), none⟩ = some (c i j) ∧ (c i j).oneCell' = true)
      (hr : ∀ i e j d, es[i]? = some e → e[j]? = some d → RepD F W d (c i j)) : RepD F W (.sl sz es) (.slice (some a) es.length cap)
  | agg (cs : List D) (vs : Array Value) (hl : vs.size = cs.length) (hr : ∀ j d, cs[j]? = some d → RepD F W d (vs.getD j undef)) : RepD F W (.agg cs) (.agg vs)
  | ptr (cs : List D) (a : Addr) (c : Nat → Value) (ha : a.spot = none) (hc : ∀ j d, cs[j]? = some d → F a.block ∧ W.cell? ⟨a.block, a.off + j, none⟩ = some (c j) ∧ (c j).oneCell' = true)
      (hr : ∀ j d, cs[j]? = some d → RepD F W d (c j)) : RepD F W (.ptr cs) (.pointer (some a))
  | fn (f : FuncId) (x y : List D) (vx vy : Array Value) (hx : vx.size = x.length) (hy : vy.size = y.length)
      (rx : ∀ j d, x[j]? = some d → RepD F W d (vx.getD j undef)) (ry : ∀ j d, y[j]? = some d → RepD F W d (vy.getD j undef)) : RepD F W (.fn f x y) (.func (.func f) vx vy)
  | tup (ds : List D) (vs : Array Value) (hl : vs.size = ds.length) (hr : ∀ j d, ds[j]? = some d → RepD F W d (vs.getD j undef)) : RepD F W (.tup ds) (.tuple vs)
theorem cell_same {W W' : World} {b : Nat} (h : W'.heap[b]? = W.heap[b]?) (o : Nat) : W'.cell? ⟨b, o, none⟩ = W.cell? ⟨b, o, none⟩ := by
  simp only [World.cell?, h]
theorem RepD.mono {F F' : Nat → Prop} {W W' : World} (hF : ∀ b, F b → F' b) (hW : ∀ b, F b → W'.heap[b]? = W.heap[b]?) {d : D} {v : Value} (h : RepD F W d v) : RepD F' W' d v := by
  induction h with
  | int k n => exact .int k n
  | bool b => exact .bool b
  | str s => exact .str s
  | nil => exact .nil
  | nilp => exact .nilp
  | nilf => exact .nilf
  | nilm => exact .nilm
  | sl sz es a cap c ha hn hz hc _ ih =>
    exact .sl sz es a cap c ha hn hz (fun i e j d h1 h2 => let ⟨x, y, z⟩ := hc i e j d h1 h2; ⟨hF _ x, (cell_same (hW _ x) _).trans y, z⟩) ih
  | agg cs vs hl _ ih => exact .agg cs vs hl ih
  | ptr cs a c ha hc _ ih => exact .ptr cs a c ha (fun j d h1 => let ⟨x, y, z⟩ := hc j d h1; ⟨hF _ x, (cell_same (hW _ x) _).trans y, z⟩) ih
  | fn f x y vx vy hx hy _ _ i1 i2 => exact .fn f x y vx vy hx hy i1 i2
  | tup ds vs hl _ ih => exact .tup ds vs hl ih
def rowSize (W : World) (b : Nat) : Option Nat :=
  match W.heap[b]? with
  | some (.cells c _ (0, 0)) => some c.size
  | _ => none
inductive RepA (m : Nat → Option Nat) (F : Nat → Prop) (L : Option Nat) (W : World) : AV → Value → Prop
  | imm (d : D) (v : Value) (h : RepD F W d v) : RepA m F L W (.imm d) v
  | agg (cs : List AV) (vs : Array Value) (hl : vs.size = cs.length) (hr : ∀ j d, cs[j]? = some d → RepA m F L W d (vs.getD j undef)) : RepA m F L W (.agg cs) (.agg vs)
  | tup (cs : List AV) (vs : Array Value) (hl : vs.size = cs.length) (hr : ∀ j d, cs[j]? = some d → RepA m F L W d (vs.getD j undef)) : RepA m F L W (.tup cs) (.tuple vs)
  | ref (id sz lo n : Nat) (b : Nat) (a : Addr) (cap s : Nat) (hm : m id = some b) (hb : a.block = b) (ha : a.spot = none) (ho : 0 < cap → a.off = lo * sz)
      (hs : rowSize W b = some s) (hle : (lo + cap) * sz = s) (hn : n ≤ cap) : RepA m F L W (.ref id sz lo n) (.slice (some a) n cap)
  | ptr (id off : Nat) (b : Nat) (hm : m id = some b) : RepA m F L W (.ptr id off) (.pointer (some ⟨b, off, none⟩))
  | clo (f : FuncId) (x y : List AV) (vx vy : Array Value) (hx : vx.size = x.length) (hy : vy.size = y.length)
      (rx : ∀ j d, x[j]? = some d → RepA m F L W d (vx.getD j undef)) (ry : ∀ j d, y[j]? = some d → RepA m F L W d (vy.getD j undef)) : RepA m F L W (.clo f x y) (.func (.func f) vx vy)
  | yield (l : Nat) (h : L = some l) : RepA m F L W .yield (.func (.yield l) #[] #[])
  | map (id : Nat) (b : Nat) (hm : m id = some b) : RepA m F L W (.map id) (.map (some b))
  | e0 (sz : Nat) (a : Addr) : RepA m F L W (.e0 sz) (.slice (some a) 0 0)
  | junk (v : Value) : RepA m F L W .junk v
structure Tr (O : Nat → Prop) (W W' : World) : Prop where
  os : W'.os = W.os
  tape : W'.tape = W.tape
  output : W'.output = W.output
  size : W.heap.size ≤ W'.heap.size
  keep : ∀ b, b < W.heap.size → ¬ O b → W'.heap[b]? = W.heap[b]?
  rows : ∀ b s, rowSize W b = some s → rowSize W' b = some s
theorem Tr.refl (O : Nat → Prop) (W : World) : Tr O W W := ⟨rfl, rfl, rfl, Nat.le_refl _, fun _ _ _ => rfl, fun _ _ h => h⟩
theorem Tr.trans {O O' : Nat → Prop} {A B C : World} (h : Tr O A B) (k : Tr O' B C) (hO : ∀ b, b < A.heap.size → O' b → O b) : Tr O A C :=
  ⟨k.os.trans h.os, k.tape.trans h.tape, k.output.trans h.output, Nat.le_trans h.size k.size,
   fun b hb hn => (k.keep b (Nat.lt_of_lt_of_le hb h.size) (fun hc => hn (hO b hb hc))).trans (h.keep b hb hn), fun b s hr => k.rows b s (h.rows b s hr)⟩
theorem Tr.mono {O O' : Nat → Prop} {A B : World} (h : Tr O A B) (hO : ∀ b, b < A.heap.size → O b → O' b) : Tr O' A B :=
  ⟨h.os, h.tape, h.output, h.size, fun b hb hn => h.keep b hb (fun hc => hn (hO b hb hc)), h.rows⟩
theorem RepA.mono {m m' : Nat → Option Nat} {F F' : Nat → Prop} {L : Option Nat} {W W' : World} (hm : ∀ i b, m i = some b → m' i = some b) (hF : ∀ b, F b → F' b) (hW : ∀ b, F b → W'.heap[b]? = W.heap[b]?)
    (hR : ∀ b s, rowSize W b = some s → rowSize W' b = some s) {d : AV} {v : Value} (h : RepA m F L W d v) : RepA m' F' L W' d v := by
  induction h with
  | imm d v h => exact .imm d v (h.mono hF hW)
  | agg cs vs hl _ ih => exact .agg cs vs hl ih
  | tup cs vs hl _ ih => exact .tup cs vs hl ih
  | ref id sz lo n b a cap s h1 h2 h3 h4 h5 h6 h7 => exact .ref id sz lo n b a cap s (hm _ _ h1) h2 h3 h4 (hR _ _ h5) h6 h7
  | ptr id off b h => exact .ptr id off b (hm _ _ h)
  | clo f x y vx vy hx hy _ _ i1 i2 => exact .clo f x y vx vy hx hy i1 i2
  | yield l h => exact .yield l h
  | map id b h => exact .map id b (hm _ _ h)
  | e0 sz a => exact .e0 sz a
  | junk v => exact .junk v
def RelO (m : Nat → Option Nat) (F : Nat → Prop) (L : Option Nat) (W : World) (b : Nat) : AO → Prop
  | .dead => True
  | .box cs => ∃ c t, W.heap[b]? = some (.cells c t (0, 0)) ∧ cs.length = c.size ∧ (∀ j, j < cs.length → (c.getD j undef).oneCell' = true) ∧ ∀ j d, cs[j]? = some d → RepA m F L W d (c.getD j undef)
  | .fbox cs => ∃ c t, W.heap[b]? = some (.cells c t (0, 0)) ∧ cs.length = c.size ∧ (∀ j, j < cs.length → (c.getD j undef).oneCell' = true) ∧ F b ∧ ∀ j d, cs[j]? = some d → RepD F W d (c.getD j undef)
  | .arr sz es => ∃ c t, W.heap[b]? = some (.cells c t (0, 0)) ∧ (∀ e ∈ es, e.length = sz) ∧ es.length * sz ≤ c.size ∧ (∀ k, k < es.length * sz → (c.getD k undef).oneCell' = true) ∧
      ∀ i e j d, es[i]? = some e → e[j]? = some d → RepD F W d (c.getD (i * sz + j) undef)
  | .farr sz es => ∃ c t, W.heap[b]? = some (.cells c t (0, 0)) ∧ (∀ e ∈ es, e.length = sz) ∧ es.length * sz ≤ c.size ∧ (∀ k, k < es.length * sz → (c.getD k undef).oneCell' = true) ∧ F b ∧
      ∀ i e j d, es[i]? = some e → e[j]? = some d → RepD F W d (c.getD (i * sz + j) undef)
  | .imap es => ∃ (ents : Array MapEntry) (clock : Nat), W.heap[b]? = some (.map ents clock) ∧ ents.size = es.length ∧
      ∀ (i : Nat) (k : Int) (d : D), es[i]? = some (k, d) → ∃ e : MapEntry, ents[i]? = some e ∧ e.key = .int .i64 k ∧ RepD F W d e.val
  | .iter s pos => W.heap[b]? = some (.stringIter s pos)
def lv : AO → Bool
  | .dead | .fbox _ | .farr _ _ => false
  | _ => true
abbrev Sto := Nat → AO
def sto (l : List AO) : Sto := fun i => l.getD i .dead
def own (m : Nat → Option Nat) (st : Sto) (b : Nat) : Prop := ∃ i, lv (st i) = true ∧ m i = some b
structure Rel (gb : Nat → Option (List D)) (m : Nat → Option Nat) (F : Nat → Prop) (L : Option Nat) (W : World) (st : Sto) : Prop where
  gl : ∀ g cs, gb g = some cs → RepD F W (.ptr cs) (.pointer (some ⟨g, 0, none⟩))
  hs : ∀ i, st i ≠ .dead → ∃ b, m i = some b ∧ RelO m F L W b (st i)
  inj : ∀ i j b, lv (st i) = true → lv (st j) = true → m i = some b → m j = some b → i = j
  nF : ∀ i b, lv (st i) = true → m i = some b → ¬ F b
  hF : ∀ b, F b → b < W.heap.size
  hm : ∀ i b, m i = some b → b < W.heap.size
theorem RelO.mono {m m' : Nat → Option Nat} {F F' : Nat → Prop} {L : Option Nat} {W W' : World} {b : Nat} {o : AO} (hm : ∀ i b, m i = some b → m' i = some b) (hF : ∀ b, F b → F' b) (hW : ∀ b, F b → W'.heap[b]? = W.heap[b]?)
    (hR : ∀ b s, rowSize W b = some s → rowSize W' b = some s) (hb : W'.heap[b]? = W.heap[b]?) (h : RelO m F L W b o) : RelO m' F' L W' b o := by
  cases o with
  | dead => exact True.intro
  | box cs => obtain ⟨c, t, h1, h2, hk, h3⟩ := h; exact ⟨c, t, hb.trans h1, h2, hk, fun j d hj => (h3 j d hj).mono hm hF hW hR⟩
  | fbox cs => obtain ⟨c, t, h1, h2, hk, h0, h3⟩ := h; exact ⟨c, t, hb.trans h1, h2, hk, hF _ h0, fun j d hj => (h3 j d hj).mono hF hW⟩
  | arr sz es => obtain ⟨c, t, h1, h2, h3, hk, h4⟩ := h; exact ⟨c, t, hb.trans h1, h2, h3, hk, fun i e j d hi hj => (h4 i e j d hi hj).mono hF hW⟩
  | farr sz es => obtain ⟨c, t, h1, h2, h3, hk, h0, h4⟩ := h; exact ⟨c, t, hb.trans h1, h2, h3, hk, hF _ h0, fun i e j d hi hj => (h4 i e j d hi hj).mono hF hW⟩
  | imap es => obtain ⟨c, t, h1, h2, h3⟩ := h; exact ⟨c, t, hb.trans h1, h2, fun i k d hi => let ⟨e, a, b, c⟩ := h3 i k d hi; ⟨e, a, b, c.mono hF hW⟩⟩
  | iter s pos => exact Eq.trans hb h
theorem Rel.mono {gb : Nat → Option (List D)} {m m' : Nat → Option Nat} {F F' : Nat → Prop} {L : Option Nat} {W W' : World} {st : Sto} {O : Nat → Prop} (R : Rel gb m F L W st) (T : Tr O W W') (hm : ∀ i b, m i = some b → m' i = some b) (hm' : ∀ i b, m' i = some b → b < W'.heap.size)
    (hF : ∀ b, F b → F' b) (hF' : ∀ b, F' b → b < W'.heap.size) (hO : ∀ i b, st i ≠ .dead → m i = some b → ¬ O b) (hOF : ∀ b, F b → ¬ O b)
    (hnF : ∀ i b, lv (st i) = true → m i = some b → ¬ F' b) : Rel gb m' F' L W' st := by
  have hW : ∀ b, F b → W'.heap[b]? = W.heap[b]? := fun b hb => T.keep b (R.hF b hb) (hOF b hb)
  have nd : ∀ i, lv (st i) = true → st i ≠ .dead := fun i h e => by rw [e] at h; cases h
  have back : ∀ i b, lv (st i) = true → m' i = some b → m i = some b := fun i b hl h => by
    obtain ⟨b', h1, _⟩ := R.hs i (nd i hl)
    have := hm i b' h1
    rw [h] at this; injection this with this; subst this; exact h1
  refine ⟨fun g cs h => (R.gl g cs h).mono hF hW, fun i hi => ?_, fun i j b hi hj h1 h2 => R.inj i j b hi hj (back i b hi h1) (back j b hj h2), fun i b hi h1 => hnF i b hi (back i b hi h1), hF', hm'⟩
  obtain ⟨b, h1, h2⟩ := R.hs i hi
  exact ⟨b, hm _ _ h1, h2.mono hm hF hW T.rows (T.keep b (R.hm i b h1) (hO i b hi h1))⟩
end Go.Vm

/- What the model's memory operations do, in the abstract machine's words. -/
namespace Go.Vm
open Go
variable {P : Program} {W : World}
theorem add_none (b o n : Nat) : (⟨b, o, none⟩ : Addr).add n = ⟨b, o + n, none⟩ := by
  unfold Addr.add; split
  · rename_i h; subst h; rfl
  · rfl
theorem addr_none {a : Addr} (h : a.spot = none) : a = ⟨a.block, a.off, none⟩ := by cases a; simp at h; subst h; rfl
theorem run_und {t : TypeId} {d : TypeDesc} (h : P.underlying t = some d) : (underlying t).run P W = .ok d W := by
  simp [underlying, h]
theorem run_info {t : TypeId} {i : TypeInfo} (h : P.info? t = some i) : (typeInfo t).run P W = .ok i W := by
  simp [typeInfo, h]
theorem run_aggB {t : TypeId} {b : Bool} (h : isAggB P t = some b) : (isAgg t).run P W = .ok b W := by
  unfold isAggB at h
  unfold isAgg
  cases hu : P.underlying t with
  | none => rw [hu] at h; cases h
  | some d =>
    rw [hu] at h
    simp only [Sem.run_bind, run_und hu, Result.andThen_ok]
    cases d <;> simp at h <;> subst h <;> rfl
theorem run_sizeB {t : TypeId} {n : Nat} (h : sizeB P t = some n) : (sizeOf t).run P W = .ok n W := by
  unfold sizeB at h
  cases hi : P.info? t with
  | none => rw [hi] at h; cases h
  | some i =>
    rw [hi] at h; simp at h; subst h
    simp [sizeOf, run_info hi]
theorem run_bytesB {t : TypeId} {n : Nat} (h : bytesB P t = some n) : ∃ i, (typeInfo t).run P W = .ok i W ∧ i.bytes = n := by
  unfold bytesB at h
  cases hi : P.info? t with
  | none => rw [hi] at h; cases h
  | some i => rw [hi] at h; simp at h; exact ⟨i, run_info hi, h⟩
theorem rep_cell {F : Nat → Prop} {v : Value} {d : D} (h : dOfCell v = some d) : RepD F W d v := by
  unfold dOfCell at h
  split at h <;> first | (injection h with h; subst h; constructor) | cases h
theorem oneCell_of {v : Value} {d : D} (h : dOfCell v = some d) : v.oneCell' = true := by
  unfold dOfCell at h
  split at h <;> first | rfl | cases h
theorem rep_cells {F : Nat → Prop} : ∀ {vs : List Value} {ds : List D}, dsOfCells vs = some ds → ds.length = vs.length ∧ (∀ v ∈ vs, v.oneCell' = true) ∧ ∀ j d, ds[j]? = some d → RepD F W d (vs.getD j undef)
  | [], ds, h => by simp [dsOfCells] at h; subst h; simp
  | v :: r, ds, h => by
    simp only [dsOfCells] at h
    split at h
    · rename_i d ds' h1 h2
      injection h with h; subst h
      obtain ⟨i1, i2, i3⟩ := rep_cells (F := F) h2
      refine ⟨by simp [i1], fun u hu => ?_, fun j d' hj => ?_⟩
      · cases hu with
        | head => exact oneCell_of h1
        | tail _ hu => exact i2 u hu
      · cases j with
        | zero => simp at hj; subst hj; exact rep_cell h1
        | succ j => simp at hj; simpa using i3 j d' hj
    · cases h
theorem rep_const {F : Nat → Prop} {v : Value} {d : D} (h : dOfV v = some d) : RepD F W d v := by
  unfold dOfV at h
  split at h
  · rename_i cs
    cases hc : dsOfCells cs.toList with
    | none => rw [hc] at h; cases h
    | some ds =>
      rw [hc] at h; simp at h; subst h
      obtain ⟨i1, _, i3⟩ := rep_cells (F := F) (W := W) hc
      refine .agg ds cs (by simpa using i1.symm) (fun j d hj => ?_)
      simpa using i3 j d hj
  · exact rep_cell h
theorem run_zeroB {F : Nat → Prop} {t : TypeId} {ds : List D} (h : zeroB P t = some ds) : ∃ z : Value, (zeroValue t).run P W = .ok z W ∧ z.cells.size = ds.length ∧ sizeB P t = some ds.length ∧ (∀ v ∈ z.cells.toList, v.oneCell' = true) ∧ ∀ j d, ds[j]? = some d → RepD F W d (z.cells.getD j undef) := by
  unfold zeroB at h
  split at h
  · rename_i i hi
    split at h
    · rename_i z hz
      split at h
      · rename_i ds' hd
        split at h
        · rename_i hl
          injection h with h; subst h
          obtain ⟨i1, i2, i3⟩ := rep_cells (F := F) (W := W) hd
          refine ⟨z, by simp [zeroValue, run_info hi, hz], by simpa using i1.symm, by simp [sizeB, hi, hl], i2, fun j d hj => by simpa using i3 j d hj⟩
        · cases h
      · cases h
    · cases h
  · cases h
theorem run_loadVarB {t : TypeId} {g : Bool} {n b o : Nat} (ha : isAggB P t = some g) (hs : sizeB P t = some n) (f : Nat → Value) (hn : g = false → n = 1)
    (hc : ∀ j, j < n → W.cell? ⟨b, o + j, none⟩ = some (f j)) :
    (loadVar t ⟨b, o, none⟩).run P W = .ok (if g then .agg ((List.range n).map f).toArray else f 0) W := by
  unfold loadVar
  simp only [Sem.run_bind, run_aggB ha, Result.andThen_ok]
  cases g with
  | true =>
    simp only [if_true, Sem.run_bind, run_sizeB hs, Result.andThen_ok]
    rw [run_loadCells W ⟨b, o, none⟩ n f (fun j hj => by rw [add_none]; exact hc j hj)]
    rfl
  | false =>
    obtain rfl := hn rfl
    have h0 := hc 0 (by omega)
    simp only [Nat.add_zero] at h0
    simp [h0]
end Go.Vm
