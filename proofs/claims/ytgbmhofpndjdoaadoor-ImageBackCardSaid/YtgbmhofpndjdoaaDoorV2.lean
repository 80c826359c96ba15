/- A part of the proof that the law answers true for every input; the conditions are those of the card: the listed variable reads as the program lays it. -/
import Derived.Test.YtgbmhofpndjdoaaDoorV1
import Derived.Laws.Cells
import Derived.Laws.CopyRow
set_option linter.unusedSimpArgs false
set_option linter.unusedVariables false
/- Evaluating: lists and records with numbers written out. -/
namespace Go.Vm
open Go
section
variable {α : Type} {d v : α}
theorem gd0 {x0 : α} {r : List α} : List.getD (x0 :: r) 0 d = x0:=id rfl
theorem gd1 {x0 x1 : α} {r : List α} : List.getD (x0 :: x1 :: r) 1 d = x1:=id rfl
theorem gd2 {x0 x1 x2 : α} {r : List α} : List.getD (x0 :: x1 :: x2 :: r) 2 d = x2:=id rfl
theorem gd3 {x0 x1 x2 x3 : α} {r : List α} : List.getD (x0 :: x1 :: x2 :: x3 :: r) 3 d = x3:=id rfl
theorem gd4 {x0 x1 x2 x3 x4 : α} {r : List α} : List.getD (x0 :: x1 :: x2 :: x3 :: x4 :: r) 4 d = x4:=id rfl
theorem gd5 {x0 x1 x2 x3 x4 x5 : α} {r : List α} : List.getD (x0 :: x1 :: x2 :: x3 :: x4 :: x5 :: r) 5 d = x5:=id rfl
theorem gd6 {x0 x1 x2 x3 x4 x5 x6 : α} {r : List α} : List.getD (x0 :: x1 :: x2 :: x3 :: x4 :: x5 :: x6 :: r) 6 d = x6:=id rfl
theorem gd7 {x0 x1 x2 x3 x4 x5 x6 x7 : α} {r : List α} : List.getD (x0 :: x1 :: x2 :: x3 :: x4 :: x5 :: x6 :: x7 :: r) 7 d = x7:=id rfl
theorem gd8 {x0 x1 x2 x3 x4 x5 x6 x7 x8 : α} {r : List α} : List.getD (x0 :: x1 :: x2 :: x3 :: x4 :: x5 :: x6 :: x7 :: x8 :: r) 8 d = x8:=id rfl
theorem gd9 {x0 x1 x2 x3 x4 x5 x6 x7 x8 x9 : α} {r : List α} : List.getD (x0 :: x1 :: x2 :: x3 :: x4 :: x5 :: x6 :: x7 :: x8 :: x9 :: r) 9 d = x9:=id rfl
theorem gd10 {x0 x1 x2 x3 x4 x5 x6 x7 x8 x9 x10 : α} {r : List α} : List.getD (x0 :: x1 :: x2 :: x3 :: x4 :: x5 :: x6 :: x7 :: x8 :: x9 :: x10 :: r) 10 d = x10:=id rfl
theorem gd11 {x0 x1 x2 x3 x4 x5 x6 x7 x8 x9 x10 x11 : α} {r : List α} : List.getD (x0 :: x1 :: x2 :: x3 :: x4 :: x5 :: x6 :: x7 :: x8 :: x9 :: x10 :: x11 :: r) 11 d = x11:=id rfl
theorem gd12 {x0 x1 x2 x3 x4 x5 x6 x7 x8 x9 x10 x11 x12 : α} {r : List α} : List.getD (x0 :: x1 :: x2 :: x3 :: x4 :: x5 :: x6 :: x7 :: x8 :: x9 :: x10 :: x11 :: x12 :: r) 12 d = x12:=id rfl
theorem gd13 {x0 x1 x2 x3 x4 x5 x6 x7 x8 x9 x10 x11 x12 x13 : α} {r : List α} : List.getD (x0 :: x1 :: x2 :: x3 :: x4 :: x5 :: x6 :: x7 :: x8 :: x9 :: x10 :: x11 :: x12 :: x13 :: r) 13 d = x13:=id rfl
theorem gd14 {x0 x1 x2 x3 x4 x5 x6 x7 x8 x9 x10 x11 x12 x13 x14 : α} {r : List α} : List.getD (x0 :: x1 :: x2 :: x3 :: x4 :: x5 :: x6 :: x7 :: x8 :: x9 :: x10 :: x11 :: x12 :: x13 :: x14 :: r) 14 d = x14:=id rfl
theorem gd15 {x0 x1 x2 x3 x4 x5 x6 x7 x8 x9 x10 x11 x12 x13 x14 x15 : α} {r : List α} : List.getD (x0 :: x1 :: x2 :: x3 :: x4 :: x5 :: x6 :: x7 :: x8 :: x9 :: x10 :: x11 :: x12 :: x13 :: x14 :: x15 :: r) 15 d = x15:=id rfl
theorem gd16 {x0 x1 x2 x3 x4 x5 x6 x7 x8 x9 x10 x11 x12 x13 x14 x15 x16 : α} {r : List α} : List.getD (x0 :: x1 :: x2 :: x3 :: x4 :: x5 :: x6 :: x7 :: x8 :: x9 :: x10 :: x11 :: x12 :: x13 :: x14 :: x15 :: x16 :: r) 16 d = x16:=id rfl
theorem gd17 {x0 x1 x2 x3 x4 x5 x6 x7 x8 x9 x10 x11 x12 x13 x14 x15 x16 x17 : α} {r : List α} : List.getD (x0 :: x1 :: x2 :: x3 :: x4 :: x5 :: x6 :: x7 :: x8 :: x9 :: x10 :: x11 :: x12 :: x13 :: x14 :: x15 :: x16 :: x17 :: r) 17 d = x17:=id rfl
theorem gd18 {x0 x1 x2 x3 x4 x5 x6 x7 x8 x9 x10 x11 x12 x13 x14 x15 x16 x17 x18 : α} {r : List α} : List.getD (x0 :: x1 :: x2 :: x3 :: x4 :: x5 :: x6 :: x7 :: x8 :: x9 :: x10 :: x11 :: x12 :: x13 :: x14 :: x15 :: x16 :: x17 :: x18 :: r) 18 d = x18:=id rfl
theorem gd19 {x0 x1 x2 x3 x4 x5 x6 x7 x8 x9 x10 x11 x12 x13 x14 x15 x16 x17 x18 x19 : α} {r : List α} : List.getD (x0 :: x1 :: x2 :: x3 :: x4 :: x5 :: x6 :: x7 :: x8 :: x9 :: x10 :: x11 :: x12 :: x13 :: x14 :: x15 :: x16 :: x17 :: x18 :: x19 :: r) 19 d = x19:=id rfl
theorem gd20 {x0 x1 x2 x3 x4 x5 x6 x7 x8 x9 x10 x11 x12 x13 x14 x15 x16 x17 x18 x19 x20 : α} {r : List α} : List.getD (x0 :: x1 :: x2 :: x3 :: x4 :: x5 :: x6 :: x7 :: x8 :: x9 :: x10 :: x11 :: x12 :: x13 :: x14 :: x15 :: x16 :: x17 :: x18 :: x19 :: x20 :: r) 20 d = x20:=id rfl
theorem gd21 {x0 x1 x2 x3 x4 x5 x6 x7 x8 x9 x10 x11 x12 x13 x14 x15 x16 x17 x18 x19 x20 x21 : α} {r : List α} : List.getD (x0 :: x1 :: x2 :: x3 :: x4 :: x5 :: x6 :: x7 :: x8 :: x9 :: x10 :: x11 :: x12 :: x13 :: x14 :: x15 :: x16 :: x17 :: x18 :: x19 :: x20 :: x21 :: r) 21 d = x21:=id rfl
theorem gd22 {x0 x1 x2 x3 x4 x5 x6 x7 x8 x9 x10 x11 x12 x13 x14 x15 x16 x17 x18 x19 x20 x21 x22 : α} {r : List α} : List.getD (x0 :: x1 :: x2 :: x3 :: x4 :: x5 :: x6 :: x7 :: x8 :: x9 :: x10 :: x11 :: x12 :: x13 :: x14 :: x15 :: x16 :: x17 :: x18 :: x19 :: x20 :: x21 :: x22 :: r) 22 d = x22:=id rfl
theorem gd23 {x0 x1 x2 x3 x4 x5 x6 x7 x8 x9 x10 x11 x12 x13 x14 x15 x16 x17 x18 x19 x20 x21 x22 x23 : α} {r : List α} : List.getD (x0 :: x1 :: x2 :: x3 :: x4 :: x5 :: x6 :: x7 :: x8 :: x9 :: x10 :: x11 :: x12 :: x13 :: x14 :: x15 :: x16 :: x17 :: x18 :: x19 :: x20 :: x21 :: x22 :: x23 :: r) 23 d = x23:=id rfl
theorem gd24 {x0 x1 x2 x3 x4 x5 x6 x7 x8 x9 x10 x11 x12 x13 x14 x15 x16 x17 x18 x19 x20 x21 x22 x23 x24 : α} {r : List α} : List.getD (x0 :: x1 :: x2 :: x3 :: x4 :: x5 :: x6 :: x7 :: x8 :: x9 :: x10 :: x11 :: x12 :: x13 :: x14 :: x15 :: x16 :: x17 :: x18 :: x19 :: x20 :: x21 :: x22 :: x23 :: x24 :: r) 24 d = x24:=id rfl
theorem gd25 {x0 x1 x2 x3 x4 x5 x6 x7 x8 x9 x10 x11 x12 x13 x14 x15 x16 x17 x18 x19 x20 x21 x22 x23 x24 x25 : α} {r : List α} : List.getD (x0 :: x1 :: x2 :: x3 :: x4 :: x5 :: x6 :: x7 :: x8 :: x9 :: x10 :: x11 :: x12 :: x13 :: x14 :: x15 :: x16 :: x17 :: x18 :: x19 :: x20 :: x21 :: x22 :: x23 :: x24 :: x25 :: r) 25 d = x25:=id rfl
theorem gd26 {x0 x1 x2 x3 x4 x5 x6 x7 x8 x9 x10 x11 x12 x13 x14 x15 x16 x17 x18 x19 x20 x21 x22 x23 x24 x25 x26 : α} {r : List α} : List.getD (x0 :: x1 :: x2 :: x3 :: x4 :: x5 :: x6 :: x7 :: x8 :: x9 :: x10 :: x11 :: x12 :: x13 :: x14 :: x15 :: x16 :: x17 :: x18 :: x19 :: x20 :: x21 :: x22 :: x23 :: x24 :: x25 :: x26 :: r) 26 d = x26:=id rfl
theorem gd27 {x0 x1 x2 x3 x4 x5 x6 x7 x8 x9 x10 x11 x12 x13 x14 x15 x16 x17 x18 x19 x20 x21 x22 x23 x24 x25 x26 x27 : α} {r : List α} : List.getD (x0 :: x1 :: x2 :: x3 :: x4 :: x5 :: x6 :: x7 :: x8 :: x9 :: x10 :: x11 :: x12 :: x13 :: x14 :: x15 :: x16 :: x17 :: x18 :: x19 :: x20 :: x21 :: x22 :: x23 :: x24 :: x25 :: x26 :: x27 :: r) 27 d = x27:=id rfl
theorem gd28 {x0 x1 x2 x3 x4 x5 x6 x7 x8 x9 x10 x11 x12 x13 x14 x15 x16 x17 x18 x19 x20 x21 x22 x23 x24 x25 x26 x27 x28 : α} {r : List α} : List.getD (x0 :: x1 :: x2 :: x3 :: x4 :: x5 :: x6 :: x7 :: x8 :: x9 :: x10 :: x11 :: x12 :: x13 :: x14 :: x15 :: x16 :: x17 :: x18 :: x19 :: x20 :: x21 :: x22 :: x23 :: x24 :: x25 :: x26 :: x27 :: x28 :: r) 28 d = x28:=id rfl
theorem gd29 {x0 x1 x2 x3 x4 x5 x6 x7 x8 x9 x10 x11 x12 x13 x14 x15 x16 x17 x18 x19 x20 x21 x22 x23 x24 x25 x26 x27 x28 x29 : α} {r : List α} : List.getD (x0 :: x1 :: x2 :: x3 :: x4 :: x5 :: x6 :: x7 :: x8 :: x9 :: x10 :: x11 :: x12 :: x13 :: x14 :: x15 :: x16 :: x17 :: x18 :: x19 :: x20 :: x21 :: x22 :: x23 :: x24 :: x25 :: x26 :: x27 :: x28 :: x29 :: r) 29 d = x29:=id rfl
theorem gd30 {x0 x1 x2 x3 x4 x5 x6 x7 x8 x9 x10 x11 x12 x13 x14 x15 x16 x17 x18 x19 x20 x21 x22 x23 x24 x25 x26 x27 x28 x29 x30 : α} {r : List α} : List.getD (x0 :: x1 :: x2 :: x3 :: x4 :: x5 :: x6 :: x7 :: x8 :: x9 :: x10 :: x11 :: x12 :: x13 :: x14 :: x15 :: x16 :: x17 :: x18 :: x19 :: x20 :: x21 :: x22 :: x23 :: x24 :: x25 :: x26 :: x27 :: x28 :: x29 :: x30 :: r) 30 d = x30:=id rfl
theorem gd31 {x0 x1 x2 x3 x4 x5 x6 x7 x8 x9 x10 x11 x12 x13 x14 x15 x16 x17 x18 x19 x20 x21 x22 x23 x24 x25 x26 x27 x28 x29 x30 x31 : α} {r : List α} : List.getD (x0 :: x1 :: x2 :: x3 :: x4 :: x5 :: x6 :: x7 :: x8 :: x9 :: x10 :: x11 :: x12 :: x13 :: x14 :: x15 :: x16 :: x17 :: x18 :: x19 :: x20 :: x21 :: x22 :: x23 :: x24 :: x25 :: x26 :: x27 :: x28 :: x29 :: x30 :: x31 :: r) 31 d = x31:=id rfl
theorem gd32 {x0 x1 x2 x3 x4 x5 x6 x7 x8 x9 x10 x11 x12 x13 x14 x15 x16 x17 x18 x19 x20 x21 x22 x23 x24 x25 x26 x27 x28 x29 x30 x31 x32 : α} {r : List α} : List.getD (x0 :: x1 :: x2 :: x3 :: x4 :: x5 :: x6 :: x7 :: x8 :: x9 :: x10 :: x11 :: x12 :: x13 :: x14 :: x15 :: x16 :: x17 :: x18 :: x19 :: x20 :: x21 :: x22 :: x23 :: x24 :: x25 :: x26 :: x27 :: x28 :: x29 :: x30 :: x31 :: x32 :: r) 32 d = x32:=id rfl
theorem gd33 {x0 x1 x2 x3 x4 x5 x6 x7 x8 x9 x10 x11 x12 x13 x14 x15 x16 x17 x18 x19 x20 x21 x22 x23 x24 x25 x26 x27 x28 x29 x30 x31 x32 x33 : α} {r : List α} : List.getD (x0 :: x1 :: x2 :: x3 :: x4 :: x5 :: x6 :: x7 :: x8 :: x9 :: x10 :: x11 :: x12 :: x13 :: x14 :: x15 :: x16 :: x17 :: x18 :: x19 :: x20 :: x21 :: x22 :: x23 :: x24 :: x25 :: x26 :: x27 :: x28 :: x29 :: x30 :: x31 :: x32 :: x33 :: r) 33 d = x33:=id rfl
theorem gd34 {x0 x1 x2 x3 x4 x5 x6 x7 x8 x9 x10 x11 x12 x13 x14 x15 x16 x17 x18 x19 x20 x21 x22 x23 x24 x25 x26 x27 x28 x29 x30 x31 x32 x33 x34 : α} {r : List α} : List.getD (x0 :: x1 :: x2 :: x3 :: x4 :: x5 :: x6 :: x7 :: x8 :: x9 :: x10 :: x11 :: x12 :: x13 :: x14 :: x15 :: x16 :: x17 :: x18 :: x19 :: x20 :: x21 :: x22 :: x23 :: x24 :: x25 :: x26 :: x27 :: x28 :: x29 :: x30 :: x31 :: x32 :: x33 :: x34 :: r) 34 d = x34:=id rfl
theorem gd35 {x0 x1 x2 x3 x4 x5 x6 x7 x8 x9 x10 x11 x12 x13 x14 x15 x16 x17 x18 x19 x20 x21 x22 x23 x24 x25 x26 x27 x28 x29 x30 x31 x32 x33 x34 x35 : α} {r : List α} : List.getD (x0 :: x1 :: x2 :: x3 :: x4 :: x5 :: x6 :: x7 :: x8 :: x9 :: x10 :: x11 :: x12 :: x13 :: x14 :: x15 :: x16 :: x17 :: x18 :: x19 :: x20 :: x21 :: x22 :: x23 :: x24 :: x25 :: x26 :: x27 :: x28 :: x29 :: x30 :: x31 :: x32 :: x33 :: x34 :: x35 :: r) 35 d = x35:=id rfl
theorem gd36 {x0 x1 x2 x3 x4 x5 x6 x7 x8 x9 x10 x11 x12 x13 x14 x15 x16 x17 x18 x19 x20 x21 x22 x23 x24 x25 x26 x27 x28 x29 x30 x31 x32 x33 x34 x35 x36 : α} {r : List α} : List.getD (x0 :: x1 :: x2 :: x3 :: x4 :: x5 :: x6 :: x7 :: x8 :: x9 :: x10 :: x11 :: x12 :: x13 :: x14 :: x15 :: x16 :: x17 :: x18 :: x19 :: x20 :: x21 :: x22 :: x23 :: x24 :: x25 :: x26 :: x27 :: x28 :: x29 :: x30 :: x31 :: x32 :: x33 :: x34 :: x35 :: x36 :: r) 36 d = x36:=id rfl
theorem gd37 {x0 x1 x2 x3 x4 x5 x6 x7 x8 x9 x10 x11 x12 x13 x14 x15 x16 x17 x18 x19 x20 x21 x22 x23 x24 x25 x26 x27 x28 x29 x30 x31 x32 x33 x34 x35 x36 x37 : α} {r : List α} : List.getD (x0 :: x1 :: x2 :: x3 :: x4 :: x5 :: x6 :: x7 :: x8 :: x9 :: x10 :: x11 :: x12 :: x13 :: x14 :: x15 :: x16 :: x17 :: x18 :: x19 :: x20 :: x21 :: x22 :: x23 :: x24 :: x25 :: x26 :: x27 :: x28 :: x29 :: x30 :: x31 :: x32 :: x33 :: x34 :: x35 :: x36 :: x37 :: r) 37 d = x37:=id rfl
theorem gd38 {x0 x1 x2 x3 x4 x5 x6 x7 x8 x9 x10 x11 x12 x13 x14 x15 x16 x17 x18 x19 x20 x21 x22 x23 x24 x25 x26 x27 x28 x29 x30 x31 x32 x33 x34 x35 x36 x37 x38 : α} {r : List α} : List.getD (x0 :: x1 :: x2 :: x3 :: x4 :: x5 :: x6 :: x7 :: x8 :: x9 :: x10 :: x11 :: x12 :: x13 :: x14 :: x15 :: x16 :: x17 :: x18 :: x19 :: x20 :: x21 :: x22 :: x23 :: x24 :: x25 :: x26 :: x27 :: x28 :: x29 :: x30 :: x31 :: x32 :: x33 :: x34 :: x35 :: x36 :: x37 :: x38 :: r) 38 d = x38:=id rfl
theorem gd39 {x0 x1 x2 x3 x4 x5 x6 x7 x8 x9 x10 x11 x12 x13 x14 x15 x16 x17 x18 x19 x20 x21 x22 x23 x24 x25 x26 x27 x28 x29 x30 x31 x32 x33 x34 x35 x36 x37 x38 x39 : α} {r : List α} : List.getD (x0 :: x1 :: x2 :: x3 :: x4 :: x5 :: x6 :: x7 :: x8 :: x9 :: x10 :: x11 :: x12 :: x13 :: x14 :: x15 :: x16 :: x17 :: x18 :: x19 :: x20 :: x21 :: x22 :: x23 :: x24 :: x25 :: x26 :: x27 :: x28 :: x29 :: x30 :: x31 :: x32 :: x33 :: x34 :: x35 :: x36 :: x37 :: x38 :: x39 :: r) 39 d = x39:=id rfl
theorem gd40 {x0 x1 x2 x3 x4 x5 x6 x7 x8 x9 x10 x11 x12 x13 x14 x15 x16 x17 x18 x19 x20 x21 x22 x23 x24 x25 x26 x27 x28 x29 x30 x31 x32 x33 x34 x35 x36 x37 x38 x39 x40 : α} {r : List α} : List.getD (x0 :: x1 :: x2 :: x3 :: x4 :: x5 :: x6 :: x7 :: x8 :: x9 :: x10 :: x11 :: x12 :: x13 :: x14 :: x15 :: x16 :: x17 :: x18 :: x19 :: x20 :: x21 :: x22 :: x23 :: x24 :: x25 :: x26 :: x27 :: x28 :: x29 :: x30 :: x31 :: x32 :: x33 :: x34 :: x35 :: x36 :: x37 :: x38 :: x39 :: x40 :: r) 40 d = x40:=id rfl
theorem gd41 {x0 x1 x2 x3 x4 x5 x6 x7 x8 x9 x10 x11 x12 x13 x14 x15 x16 x17 x18 x19 x20 x21 x22 x23 x24 x25 x26 x27 x28 x29 x30 x31 x32 x33 x34 x35 x36 x37 x38 x39 x40 x41 : α} {r : List α} : List.getD (x0 :: x1 :: x2 :: x3 :: x4 :: x5 :: x6 :: x7 :: x8 :: x9 :: x10 :: x11 :: x12 :: x13 :: x14 :: x15 :: x16 :: x17 :: x18 :: x19 :: x20 :: x21 :: x22 :: x23 :: x24 :: x25 :: x26 :: x27 :: x28 :: x29 :: x30 :: x31 :: x32 :: x33 :: x34 :: x35 :: x36 :: x37 :: x38 :: x39 :: x40 :: x41 :: r) 41 d = x41:=id rfl
theorem gd42 {x0 x1 x2 x3 x4 x5 x6 x7 x8 x9 x10 x11 x12 x13 x14 x15 x16 x17 x18 x19 x20 x21 x22 x23 x24 x25 x26 x27 x28 x29 x30 x31 x32 x33 x34 x35 x36 x37 x38 x39 x40 x41 x42 : α} {r : List α} : List.getD (x0 :: x1 :: x2 :: x3 :: x4 :: x5 :: x6 :: x7 :: x8 :: x9 :: x10 :: x11 :: x12 :: x13 :: x14 :: x15 :: x16 :: x17 :: x18 :: x19 :: x20 :: x21 :: x22 :: x23 :: x24 :: x25 :: x26 :: x27 :: x28 :: x29 :: x30 :: x31 :: x32 :: x33 :: x34 :: x35 :: x36 :: x37 :: x38 :: x39 :: x40 :: x41 :: x42 :: r) 42 d = x42:=id rfl
theorem gd43 {x0 x1 x2 x3 x4 x5 x6 x7 x8 x9 x10 x11 x12 x13 x14 x15 x16 x17 x18 x19 x20 x21 x22 x23 x24 x25 x26 x27 x28 x29 x30 x31 x32 x33 x34 x35 x36 x37 x38 x39 x40 x41 x42 x43 : α} {r : List α} : List.getD (x0 :: x1 :: x2 :: x3 :: x4 :: x5 :: x6 :: x7 :: x8 :: x9 :: x10 :: x11 :: x12 :: x13 :: x14 :: x15 :: x16 :: x17 :: x18 :: x19 :: x20 :: x21 :: x22 :: x23 :: x24 :: x25 :: x26 :: x27 :: x28 :: x29 :: x30 :: x31 :: x32 :: x33 :: x34 :: x35 :: x36 :: x37 :: x38 :: x39 :: x40 :: x41 :: x42 :: x43 :: r) 43 d = x43:=id rfl
theorem gd44 {x0 x1 x2 x3 x4 x5 x6 x7 x8 x9 x10 x11 x12 x13 x14 x15 x16 x17 x18 x19 x20 x21 x22 x23 x24 x25 x26 x27 x28 x29 x30 x31 x32 x33 x34 x35 x36 x37 x38 x39 x40 x41 x42 x43 x44 : α} {r : List α} : List.getD (x0 :: x1 :: x2 :: x3 :: x4 :: x5 :: x6 :: x7 :: x8 :: x9 :: x10 :: x11 :: x12 :: x13 :: x14 :: x15 :: x16 :: x17 :: x18 :: x19 :: x20 :: x21 :: x22 :: x23 :: x24 :: x25 :: x26 :: x27 :: x28 :: x29 :: x30 :: x31 :: x32 :: x33 :: x34 :: x35 :: x36 :: x37 :: x38 :: x39 :: x40 :: x41 :: x42 :: x43 :: x44 :: r) 44 d = x44:=id rfl
theorem gd45 {x0 x1 x2 x3 x4 x5 x6 x7 x8 x9 x10 x11 x12 x13 x14 x15 x16 x17 x18 x19 x20 x21 x22 x23 x24 x25 x26 x27 x28 x29 x30 x31 x32 x33 x34 x35 x36 x37 x38 x39 x40 x41 x42 x43 x44 x45 : α} {r : List α} : List.getD (x0 :: x1 :: x2 :: x3 :: x4 :: x5 :: x6 :: x7 :: x8 :: x9 :: x10 :: x11 :: x12 :: x13 :: x14 :: x15 :: x16 :: x17 :: x18 :: x19 :: x20 :: x21 :: x22 :: x23 :: x24 :: x25 :: x26 :: x27 :: x28 :: x29 :: x30 :: x31 :: x32 :: x33 :: x34 :: x35 :: x36 :: x37 :: x38 :: x39 :: x40 :: x41 :: x42 :: x43 :: x44 :: x45 :: r) 45 d = x45:=id rfl
theorem gd46 {x0 x1 x2 x3 x4 x5 x6 x7 x8 x9 x10 x11 x12 x13 x14 x15 x16 x17 x18 x19 x20 x21 x22 x23 x24 x25 x26 x27 x28 x29 x30 x31 x32 x33 x34 x35 x36 x37 x38 x39 x40 x41 x42 x43 x44 x45 x46 : α} {r : List α} : List.getD (x0 :: x1 :: x2 :: x3 :: x4 :: x5 :: x6 :: x7 :: x8 :: x9 :: x10 :: x11 :: x12 :: x13 :: x14 :: x15 :: x16 :: x17 :: x18 :: x19 :: x20 :: x21 :: x22 :: x23 :: x24 :: x25 :: x26 :: x27 :: x28 :: x29 :: x30 :: x31 :: x32 :: x33 :: x34 :: x35 :: x36 :: x37 :: x38 :: x39 :: x40 :: x41 :: x42 :: x43 :: x44 :: x45 :: x46 :: r) 46 d = x46:=id rfl
theorem gd47 {x0 x1 x2 x3 x4 x5 x6 x7 x8 x9 x10 x11 x12 x13 x14 x15 x16 x17 x18 x19 x20 x21 x22 x23 x24 x25 x26 x27 x28 x29 x30 x31 x32 x33 x34 x35 x36 x37 x38 x39 x40 x41 x42 x43 x44 x45 x46 x47 : α} {r : List α} : List.getD (x0 :: x1 :: x2 :: x3 :: x4 :: x5 :: x6 :: x7 :: x8 :: x9 :: x10 :: x11 :: x12 :: x13 :: x14 :: x15 :: x16 :: x17 :: x18 :: x19 :: x20 :: x21 :: x22 :: x23 :: x24 :: x25 :: x26 :: x27 :: x28 :: x29 :: x30 :: x31 :: x32 :: x33 :: x34 :: x35 :: x36 :: x37 :: x38 :: x39 :: x40 :: x41 :: x42 :: x43 :: x44 :: x45 :: x46 :: x47 :: r) 47 d = x47:=id rfl
theorem gd48 {x0 x1 x2 x3 x4 x5 x6 x7 x8 x9 x10 x11 x12 x13 x14 x15 x16 x17 x18 x19 x20 x21 x22 x23 x24 x25 x26 x27 x28 x29 x30 x31 x32 x33 x34 x35 x36 x37 x38 x39 x40 x41 x42 x43 x44 x45 x46 x47 x48 : α} {r : List α} : List.getD (x0 :: x1 :: x2 :: x3 :: x4 :: x5 :: x6 :: x7 :: x8 :: x9 :: x10 :: x11 :: x12 :: x13 :: x14 :: x15 :: x16 :: x17 :: x18 :: x19 :: x20 :: x21 :: x22 :: x23 :: x24 :: x25 :: x26 :: x27 :: x28 :: x29 :: x30 :: x31 :: x32 :: x33 :: x34 :: x35 :: x36 :: x37 :: x38 :: x39 :: x40 :: x41 :: x42 :: x43 :: x44 :: x45 :: x46 :: x47 :: x48 :: r) 48 d = x48:=id rfl
theorem gd49 {x0 x1 x2 x3 x4 x5 x6 x7 x8 x9 x10 x11 x12 x13 x14 x15 x16 x17 x18 x19 x20 x21 x22 x23 x24 x25 x26 x27 x28 x29 x30 x31 x32 x33 x34 x35 x36 x37 x38 x39 x40 x41 x42 x43 x44 x45 x46 x47 x48 x49 : α} {r : List α} : List.getD (x0 :: x1 :: x2 :: x3 :: x4 :: x5 :: x6 :: x7 :: x8 :: x9 :: x10 :: x11 :: x12 :: x13 :: x14 :: x15 :: x16 :: x17 :: x18 :: x19 :: x20 :: x21 :: x22 :: x23 :: x24 :: x25 :: x26 :: x27 :: x28 :: x29 :: x30 :: x31 :: x32 :: x33 :: x34 :: x35 :: x36 :: x37 :: x38 :: x39 :: x40 :: x41 :: x42 :: x43 :: x44 :: x45 :: x46 :: x47 :: x48 :: x49 :: r) 49 d = x49:=id rfl
theorem gd50 {x0 x1 x2 x3 x4 x5 x6 x7 x8 x9 x10 x11 x12 x13 x14 x15 x16 x17 x18 x19 x20 x21 x22 x23 x24 x25 x26 x27 x28 x29 x30 x31 x32 x33 x34 x35 x36 x37 x38 x39 x40 x41 x42 x43 x44 x45 x46 x47 x48 x49 x50 : α} {r : List α} : List.getD (x0 :: x1 :: x2 :: x3 :: x4 :: x5 :: x6 :: x7 :: x8 :: x9 :: x10 :: x11 :: x12 :: x13 :: x14 :: x15 :: x16 :: x17 :: x18 :: x19 :: x20 :: x21 :: x22 :: x23 :: x24 :: x25 :: x26 :: x27 :: x28 :: x29 :: x30 :: x31 :: x32 :: x33 :: x34 :: x35 :: x36 :: x37 :: x38 :: x39 :: x40 :: x41 :: x42 :: x43 :: x44 :: x45 :: x46 :: x47 :: x48 :: x49 :: x50 :: r) 50 d = x50:=id rfl
theorem gd51 {x0 x1 x2 x3 x4 x5 x6 x7 x8 x9 x10 x11 x12 x13 x14 x15 x16 x17 x18 x19 x20 x21 x22 x23 x24 x25 x26 x27 x28 x29 x30 x31 x32 x33 x34 x35 x36 x37 x38 x39 x40 x41 x42 x43 x44 x45 x46 x47 x48 x49 x50 x51 : α} {r : List α} : List.getD (x0 :: x1 :: x2 :: x3 :: x4 :: x5 :: x6 :: x7 :: x8 :: x9 :: x10 :: x11 :: x12 :: x13 :: x14 :: x15 :: x16 :: x17 :: x18 :: x19 :: x20 :: x21 :: x22 :: x23 :: x24 :: x25 :: x26 :: x27 :: x28 :: x29 :: x30 :: x31 :: x32 :: x33 :: x34 :: x35 :: x36 :: x37 :: x38 :: x39 :: x40 :: x41 :: x42 :: x43 :: x44 :: x45 :: x46 :: x47 :: x48 :: x49 :: x50 :: x51 :: r) 51 d = x51:=id rfl
theorem gd52 {x0 x1 x2 x3 x4 x5 x6 x7 x8 x9 x10 x11 x12 x13 x14 x15 x16 x17 x18 x19 x20 x21 x22 x23 x24 x25 x26 x27 x28 x29 x30 x31 x32 x33 x34 x35 x36 x37 x38 x39 x40 x41 x42 x43 x44 x45 x46 x47 x48 x49 x50 x51 x52 : α} {r : List α} : List.getD (x0 :: x1 :: x2 :: x3 :: x4 :: x5 :: x6 :: x7 :: x8 :: x9 :: x10 :: x11 :: x12 :: x13 :: x14 :: x15 :: x16 :: x17 :: x18 :: x19 :: x20 :: x21 :: x22 :: x23 :: x24 :: x25 :: x26 :: x27 :: x28 :: x29 :: x30 :: x31 :: x32 :: x33 :: x34 :: x35 :: x36 :: x37 :: x38 :: x39 :: x40 :: x41 :: x42 :: x43 :: x44 :: x45 :: x46 :: x47 :: x48 :: x49 :: x50 :: x51 :: x52 :: r) 52 d = x52:=id rfl
theorem gd53 {x0 x1 x2 x3 x4 x5 x6 x7 x8 x9 x10 x11 x12 x13 x14 x15 x16 x17 x18 x19 x20 x21 x22 x23 x24 x25 x26 x27 x28 x29 x30 x31 x32 x33 x34 x35 x36 x37 x38 x39 x40 x41 x42 x43 x44 x45 x46 x47 x48 x49 x50 x51 x52 x53 : α} {r : List α} : List.getD (x0 :: x1 :: x2 :: x3 :: x4 :: x5 :: x6 :: x7 :: x8 :: x9 :: x10 :: x11 :: x12 :: x13 :: x14 :: x15 :: x16 :: x17 :: x18 :: x19 :: x20 :: x21 :: x22 :: x23 :: x24 :: x25 :: x26 :: x27 :: x28 :: x29 :: x30 :: x31 :: x32 :: x33 :: x34 :: x35 :: x36 :: x37 :: x38 :: x39 :: x40 :: x41 :: x42 :: x43 :: x44 :: x45 :: x46 :: x47 :: x48 :: x49 :: x50 :: x51 :: x52 :: x53 :: r) 53 d = x53:=id rfl
theorem gd54 {x0 x1 x2 x3 x4 x5 x6 x7 x8 x9 x10 x11 x12 x13 x14 x15 x16 x17 x18 x19 x20 x21 x22 x23 x24 x25 x26 x27 x28 x29 x30 x31 x32 x33 x34 x35 x36 x37 x38 x39 x40 x41 x42 x43 x44 x45 x46 x47 x48 x49 x50 x51 x52 x53 x54 : α} {r : List α} : List.getD (x0 :: x1 :: x2 :: x3 :: x4 :: x5 :: x6 :: x7 :: x8 :: x9 :: x10 :: x11 :: x12 :: x13 :: x14 :: x15 :: x16 :: x17 :: x18 :: x19 :: x20 :: x21 :: x22 :: x23 :: x24 :: x25 :: x26 :: x27 :: x28 :: x29 :: x30 :: x31 :: x32 :: x33 :: x34 :: x35 :: x36 :: x37 :: x38 :: x39 :: x40 :: x41 :: x42 :: x43 :: x44 :: x45 :: x46 :: x47 :: x48 :: x49 :: x50 :: x51 :: x52 :: x53 :: x54 :: r) 54 d = x54:=id rfl
theorem gd55 {x0 x1 x2 x3 x4 x5 x6 x7 x8 x9 x10 x11 x12 x13 x14 x15 x16 x17 x18 x19 x20 x21 x22 x23 x24 x25 x26 x27 x28 x29 x30 x31 x32 x33 x34 x35 x36 x37 x38 x39 x40 x41 x42 x43 x44 x45 x46 x47 x48 x49 x50 x51 x52 x53 x54 x55 : α} {r : List α} : List.getD (x0 :: x1 :: x2 :: x3 :: x4 :: x5 :: x6 :: x7 :: x8 :: x9 :: x10 :: x11 :: x12 :: x13 :: x14 :: x15 :: x16 :: x17 :: x18 :: x19 :: x20 :: x21 :: x22 :: x23 :: x24 :: x25 :: x26 :: x27 :: x28 :: x29 :: x30 :: x31 :: x32 :: x33 :: x34 :: x35 :: x36 :: x37 :: x38 :: x39 :: x40 :: x41 :: x42 :: x43 :: x44 :: x45 :: x46 :: x47 :: x48 :: x49 :: x50 :: x51 :: x52 :: x53 :: x54 :: x55 :: r) 55 d = x55:=id rfl
theorem gd56 {x0 x1 x2 x3 x4 x5 x6 x7 x8 x9 x10 x11 x12 x13 x14 x15 x16 x17 x18 x19 x20 x21 x22 x23 x24 x25 x26 x27 x28 x29 x30 x31 x32 x33 x34 x35 x36 x37 x38 x39 x40 x41 x42 x43 x44 x45 x46 x47 x48 x49 x50 x51 x52 x53 x54 x55 x56 : α} {r : List α} : List.getD (x0 :: x1 :: x2 :: x3 :: x4 :: x5 :: x6 :: x7 :: x8 :: x9 :: x10 :: x11 :: x12 :: x13 :: x14 :: x15 :: x16 :: x17 :: x18 :: x19 :: x20 :: x21 :: x22 :: x23 :: x24 :: x25 :: x26 :: x27 :: x28 :: x29 :: x30 :: x31 :: x32 :: x33 :: x34 :: x35 :: x36 :: x37 :: x38 :: x39 :: x40 :: x41 :: x42 :: x43 :: x44 :: x45 :: x46 :: x47 :: x48 :: x49 :: x50 :: x51 :: x52 :: x53 :: x54 :: x55 :: x56 :: r) 56 d = x56:=id rfl
theorem gd57 {x0 x1 x2 x3 x4 x5 x6 x7 x8 x9 x10 x11 x12 x13 x14 x15 x16 x17 x18 x19 x20 x21 x22 x23 x24 x25 x26 x27 x28 x29 x30 x31 x32 x33 x34 x35 x36 x37 x38 x39 x40 x41 x42 x43 x44 x45 x46 x47 x48 x49 x50 x51 x52 x53 x54 x55 x56 x57 : α} {r : List α} : List.getD (x0 :: x1 :: x2 :: x3 :: x4 :: x5 :: x6 :: x7 :: x8 :: x9 :: x10 :: x11 :: x12 :: x13 :: x14 :: x15 :: x16 :: x17 :: x18 :: x19 :: x20 :: x21 :: x22 :: x23 :: x24 :: x25 :: x26 :: x27 :: x28 :: x29 :: x30 :: x31 :: x32 :: x33 :: x34 :: x35 :: x36 :: x37 :: x38 :: x39 :: x40 :: x41 :: x42 :: x43 :: x44 :: x45 :: x46 :: x47 :: x48 :: x49 :: x50 :: x51 :: x52 :: x53 :: x54 :: x55 :: x56 :: x57 :: r) 57 d = x57:=id rfl
theorem gd58 {x0 x1 x2 x3 x4 x5 x6 x7 x8 x9 x10 x11 x12 x13 x14 x15 x16 x17 x18 x19 x20 x21 x22 x23 x24 x25 x26 x27 x28 x29 x30 x31 x32 x33 x34 x35 x36 x37 x38 x39 x40 x41 x42 x43 x44 x45 x46 x47 x48 x49 x50 x51 x52 x53 x54 x55 x56 x57 x58 : α} {r : List α} : List.getD (x0 :: x1 :: x2 :: x3 :: x4 :: x5 :: x6 :: x7 :: x8 :: x9 :: x10 :: x11 :: x12 :: x13 :: x14 :: x15 :: x16 :: x17 :: x18 :: x19 :: x20 :: x21 :: x22 :: x23 :: x24 :: x25 :: x26 :: x27 :: x28 :: x29 :: x30 :: x31 :: x32 :: x33 :: x34 :: x35 :: x36 :: x37 :: x38 :: x39 :: x40 :: x41 :: x42 :: x43 :: x44 :: x45 :: x46 :: x47 :: x48 :: x49 :: x50 :: x51 :: x52 :: x53 :: x54 :: x55 :: x56 :: x57 :: x58 :: r) 58 d = x58:=id rfl
theorem gd59 {x0 x1 x2 x3 x4 x5 x6 x7 x8 x9 x10 x11 x12 x13 x14 x15 x16 x17 x18 x19 x20 x21 x22 x23 x24 x25 x26 x27 x28 x29 x30 x31 x32 x33 x34 x35 x36 x37 x38 x39 x40 x41 x42 x43 x44 x45 x46 x47 x48 x49 x50 x51 x52 x53 x54 x55 x56 x57 x58 x59 : α} {r : List α} : List.getD (x0 :: x1 :: x2 :: x3 :: x4 :: x5 :: x6 :: x7 :: x8 :: x9 :: x10 :: x11 :: x12 :: x13 :: x14 :: x15 :: x16 :: x17 :: x18 :: x19 :: x20 :: x21 :: x22 :: x23 :: x24 :: x25 :: x26 :: x27 :: x28 :: x29 :: x30 :: x31 :: x32 :: x33 :: x34 :: x35 :: x36 :: x37 :: x38 :: x39 :: x40 :: x41 :: x42 :: x43 :: x44 :: x45 :: x46 :: x47 :: x48 :: x49 :: x50 :: x51 :: x52 :: x53 :: x54 :: x55 :: x56 :: x57 :: x58 :: x59 :: r) 59 d = x59:=id rfl
theorem gd60 {x0 x1 x2 x3 x4 x5 x6 x7 x8 x9 x10 x11 x12 x13 x14 x15 x16 x17 x18 x19 x20 x21 x22 x23 x24 x25 x26 x27 x28 x29 x30 x31 x32 x33 x34 x35 x36 x37 x38 x39 x40 x41 x42 x43 x44 x45 x46 x47 x48 x49 x50 x51 x52 x53 x54 x55 x56 x57 x58 x59 x60 : α} {r : List α} : List.getD (x0 :: x1 :: x2 :: x3 :: x4 :: x5 :: x6 :: x7 :: x8 :: x9 :: x10 :: x11 :: x12 :: x13 :: x14 :: x15 :: x16 :: x17 :: x18 :: x19 :: x20 :: x21 :: x22 :: x23 :: x24 :: x25 :: x26 :: x27 :: x28 :: x29 :: x30 :: x31 :: x32 :: x33 :: x34 :: x35 :: x36 :: x37 :: x38 :: x39 :: x40 :: x41 :: x42 :: x43 :: x44 :: x45 :: x46 :: x47 :: x48 :: x49 :: x50 :: x51 :: x52 :: x53 :: x54 :: x55 :: x56 :: x57 :: x58 :: x59 :: x60 :: r) 60 d = x60:=id rfl
theorem gd61 {x0 x1 x2 x3 x4 x5 x6 x7 x8 x9 x10 x11 x12 x13 x14 x15 x16 x17 x18 x19 x20 x21 x22 x23 x24 x25 x26 x27 x28 x29 x30 x31 x32 x33 x34 x35 x36 x37 x38 x39 x40 x41 x42 x43 x44 x45 x46 x47 x48 x49 x50 x51 x52 x53 x54 x55 x56 x57 x58 x59 x60 x61 : α} {r : List α} : List.getD (x0 :: x1 :: x2 :: x3 :: x4 :: x5 :: x6 :: x7 :: x8 :: x9 :: x10 :: x11 :: x12 :: x13 :: x14 :: x15 :: x16 :: x17 :: x18 :: x19 :: x20 :: x21 :: x22 :: x23 :: x24 :: x25 :: x26 :: x27 :: x28 :: x29 :: x30 :: x31 :: x32 :: x33 :: x34 :: x35 :: x36 :: x37 :: x38 :: x39 :: x40 :: x41 :: x42 :: x43 :: x44 :: x45 :: x46 :: x47 :: x48 :: x49 :: x50 :: x51 :: x52 :: x53 :: x54 :: x55 :: x56 :: x57 :: x58 :: x59 :: x60 :: x61 :: r) 61 d = x61:=id rfl
theorem gd62 {x0 x1 x2 x3 x4 x5 x6 x7 x8 x9 x10 x11 x12 x13 x14 x15 x16 x17 x18 x19 x20 x21 x22 x23 x24 x25 x26 x27 x28 x29 x30 x31 x32 x33 x34 x35 x36 x37 x38 x39 x40 x41 x42 x43 x44 x45 x46 x47 x48 x49 x50 x51 x52 x53 x54 x55 x56 x57 x58 x59 x60 x61 x62 : α} {r : List α} : List.getD (x0 :: x1 :: x2 :: x3 :: x4 :: x5 :: x6 :: x7 :: x8 :: x9 :: x10 :: x11 :: x12 :: x13 :: x14 :: x15 :: x16 :: x17 :: x18 :: x19 :: x20 :: x21 :: x22 :: x23 :: x24 :: x25 :: x26 :: x27 :: x28 :: x29 :: x30 :: x31 :: x32 :: x33 :: x34 :: x35 :: x36 :: x37 :: x38 :: x39 :: x40 :: x41 :: x42 :: x43 :: x44 :: x45 :: x46 :: x47 :: x48 :: x49 :: x50 :: x51 :: x52 :: x53 :: x54 :: x55 :: x56 :: x57 :: x58 :: x59 :: x60 :: x61 :: x62 :: r) 62 d = x62:=id rfl
theorem gd63 {x0 x1 x2 x3 x4 x5 x6 x7 x8 x9 x10 x11 x12 x13 x14 x15 x16 x17 x18 x19 x20 x21 x22 x23 x24 x25 x26 x27 x28 x29 x30 x31 x32 x33 x34 x35 x36 x37 x38 x39 x40 x41 x42 x43 x44 x45 x46 x47 x48 x49 x50 x51 x52 x53 x54 x55 x56 x57 x58 x59 x60 x61 x62 x63 : α} {r : List α} : List.getD (x0 :: x1 :: x2 :: x3 :: x4 :: x5 :: x6 :: x7 :: x8 :: x9 :: x10 :: x11 :: x12 :: x13 :: x14 :: x15 :: x16 :: x17 :: x18 :: x19 :: x20 :: x21 :: x22 :: x23 :: x24 :: x25 :: x26 :: x27 :: x28 :: x29 :: x30 :: x31 :: x32 :: x33 :: x34 :: x35 :: x36 :: x37 :: x38 :: x39 :: x40 :: x41 :: x42 :: x43 :: x44 :: x45 :: x46 :: x47 :: x48 :: x49 :: x50 :: x51 :: x52 :: x53 :: x54 :: x55 :: x56 :: x57 :: x58 :: x59 :: x60 :: x61 :: x62 :: x63 :: r) 63 d = x63:=id rfl
theorem st0 {x0 : α} {r : List α} : List.set (x0 :: r) 0 v = v :: r:=id rfl
theorem st1 {x0 x1 : α} {r : List α} : List.set (x0 :: x1 :: r) 1 v = x0 :: v :: r:=id rfl
theorem st2 {x0 x1 x2 : α} {r : List α} : List.set (x0 :: x1 :: x2 :: r) 2 v = x0 :: x1 :: v :: r:=id rfl
theorem st3 {x0 x1 x2 x3 : α} {r : List α} : List.set (x0 :: x1 :: x2 :: x3 :: r) 3 v = x0 :: x1 :: x2 :: v :: r:=id rfl
theorem st4 {x0 x1 x2 x3 x4 : α} {r : List α} : List.set (x0 :: x1 :: x2 :: x3 :: x4 :: r) 4 v = x0 :: x1 :: x2 :: x3 :: v :: r:=id rfl
theorem st5 {x0 x1 x2 x3 x4 x5 : α} {r : List α} : List.set (x0 :: x1 :: x2 :: x3 :: x4 :: x5 :: r) 5 v = x0 :: x1 :: x2 :: x3 :: x4 :: v :: r:=id rfl
theorem st6 {x0 x1 x2 x3 x4 x5 x6 : α} {r : List α} : List.set (x0 :: x1 :: x2 :: x3 :: x4 :: x5 :: x6 :: r) 6 v = x0 :: x1 :: x2 :: x3 :: x4 :: x5 :: v :: r:=id rfl
theorem st7 {x0 x1 x2 x3 x4 x5 x6 x7 : α} {r : List α} : List.set (x0 :: x1 :: x2 :: x3 :: x4 :: x5 :: x6 :: x7 :: r) 7 v = x0 :: x1 :: x2 :: x3 :: x4 :: x5 :: x6 :: v :: r:=id rfl
theorem st8 {x0 x1 x2 x3 x4 x5 x6 x7 x8 : α} {r : List α} : List.set (x0 :: x1 :: x2 :: x3 :: x4 :: x5 :: x6 :: x7 :: x8 :: r) 8 v = x0 :: x1 :: x2 :: x3 :: x4 :: x5 :: x6 :: x7 :: v :: r:=id rfl
theorem st9 {x0 x1 x2 x3 x4 x5 x6 x7 x8 x9 : α} {r : List α} : List.set (x0 :: x1 :: x2 :: x3 :: x4 :: x5 :: x6 :: x7 :: x8 :: x9 :: r) 9 v = x0 :: x1 :: x2 :: x3 :: x4 :: x5 :: x6 :: x7 :: x8 :: v :: r:=id rfl
theorem st10 {x0 x1 x2 x3 x4 x5 x6 x7 x8 x9 x10 : α} {r : List α} : List.set (x0 :: x1 :: x2 :: x3 :: x4 :: x5 :: x6 :: x7 :: x8 :: x9 :: x10 :: r) 10 v = x0 :: x1 :: x2 :: x3 :: x4 :: x5 :: x6 :: x7 :: x8 :: x9 :: v :: r:=id rfl
theorem st11 {x0 x1 x2 x3 x4 x5 x6 x7 x8 x9 x10 x11 : α} {r : List α} : List.set (x0 :: x1 :: x2 :: x3 :: x4 :: x5 :: x6 :: x7 :: x8 :: x9 :: x10 :: x11 :: r) 11 v = x0 :: x1 :: x2 :: x3 :: x4 :: x5 :: x6 :: x7 :: x8 :: x9 :: x10 :: v :: r:=id rfl
theorem st12 {x0 x1 x2 x3 x4 x5 x6 x7 x8 x9 x10 x11 x12 : α} {r : List α} : List.set (x0 :: x1 :: x2 :: x3 :: x4 :: x5 :: x6 :: x7 :: x8 :: x9 :: x10 :: x11 :: x12 :: r) 12 v = x0 :: x1 :: x2 :: x3 :: x4 :: x5 :: x6 :: x7 :: x8 :: x9 :: x10 :: x11 :: v :: r:=id rfl
theorem st13 {x0 x1 x2 x3 x4 x5 x6 x7 x8 x9 x10 x11 x12 x13 : α} {r : List α} : List.set (x0 :: x1 :: x2 :: x3 :: x4 :: x5 :: x6 :: x7 :: x8 :: x9 :: x10 :: x11 :: x12 :: x13 :: r) 13 v = x0 :: x1 :: x2 :: x3 :: x4 :: x5 :: x6 :: x7 :: x8 :: x9 :: x10 :: x11 :: x12 :: v :: r:=id rfl
theorem st14 {x0 x1 x2 x3 x4 x5 x6 x7 x8 x9 x10 x11 x12 x13 x14 : α} {r : List α} : List.set (x0 :: x1 :: x2 :: x3 :: x4 :: x5 :: x6 :: x7 :: x8 :: x9 :: x10 :: x11 :: x12 :: x13 :: x14 :: r) 14 v = x0 :: x1 :: x2 :: x3 :: x4 :: x5 :: x6 :: x7 :: x8 :: x9 :: x10 :: x11 :: x12 :: x13 :: v :: r:=id rfl
theorem st15 {x0 x1 x2 x3 x4 x5 x6 x7 x8 x9 x10 x11 x12 x13 x14 x15 : α} {r : List α} : List.set (x0 :: x1 :: x2 :: x3 :: x4 :: x5 :: x6 :: x7 :: x8 :: x9 :: x10 :: x11 :: x12 :: x13 :: x14 :: x15 :: r) 15 v = x0 :: x1 :: x2 :: x3 :: x4 :: x5 :: x6 :: x7 :: x8 :: x9 :: x10 :: x11 :: x12 :: x13 :: x14 :: v :: r:=id rfl
theorem st16 {x0 x1 x2 x3 x4 x5 x6 x7 x8 x9 x10 x11 x12 x13 x14 x15 x16 : α} {r : List α} : List.set (x0 :: x1 :: x2 :: x3 :: x4 :: x5 :: x6 :: x7 :: x8 :: x9 :: x10 :: x11 :: x12 :: x13 :: x14 :: x15 :: x16 :: r) 16 v = x0 :: x1 :: x2 :: x3 :: x4 :: x5 :: x6 :: x7 :: x8 :: x9 :: x10 :: x11 :: x12 :: x13 :: x14 :: x15 :: v :: r:=id rfl
theorem st17 {x0 x1 x2 x3 x4 x5 x6 x7 x8 x9 x10 x11 x12 x13 x14 x15 x16 x17 : α} {r : List α} : List.set (x0 :: x1 :: x2 :: x3 :: x4 :: x5 :: x6 :: x7 :: x8 :: x9 :: x10 :: x11 :: x12 :: x13 :: x14 :: x15 :: x16 :: x17 :: r) 17 v = x0 :: x1 :: x2 :: x3 :: x4 :: x5 :: x6 :: x7 :: x8 :: x9 :: x10 :: x11 :: x12 :: x13 :: x14 :: x15 :: x16 :: v :: r:=id rfl
theorem st18 {x0 x1 x2 x3 x4 x5 x6 x7 x8 x9 x10 x11 x12 x13 x14 x15 x16 x17 x18 : α} {r : List α} : List.set (x0 :: x1 :: x2 :: x3 :: x4 :: x5 :: x6 :: x7 :: x8 :: x9 :: x10 :: x11 :: x12 :: x13 :: x14 :: x15 :: x16 :: x17 :: x18 :: r) 18 v = x0 :: x1 :: x2 :: x3 :: x4 :: x5 :: x6 :: x7 :: x8 :: x9 :: x10 :: x11 :: x12 :: x13 :: x14 :: x15 :: x16 :: x17 :: v :: r:=id rfl
theorem st19 {x0 x1 x2 x3 x4 x5 x6 x7 x8 x9 x10 x11 x12 x13 x14 x15 x16 x17 x18 x19 : α} {r : List α} : List.set (x0 :: x1 :: x2 :: x3 :: x4 :: x5 :: x6 :: x7 :: x8 :: x9 :: x10 :: x11 :: x12 :: x13 :: x14 :: x15 :: x16 :: x17 :: x18 :: x19 :: r) 19 v = x0 :: x1 :: x2 :: x3 :: x4 :: x5 :: x6 :: x7 :: x8 :: x9 :: x10 :: x11 :: x12 :: x13 :: x14 :: x15 :: x16 :: x17 :: x18 :: v :: r:=id rfl
theorem st20 {x0 x1 x2 x3 x4 x5 x6 x7 x8 x9 x10 x11 x12 x13 x14 x15 x16 x17 x18 x19 x20 : α} {r : List α} : List.set (x0 :: x1 :: x2 :: x3 :: x4 :: x5 :: x6 :: x7 :: x8 :: x9 :: x10 :: x11 :: x12 :: x13 :: x14 :: x15 :: x16 :: x17 :: x18 :: x19 :: x20 :: r) 20 v = x0 :: x1 :: x2 :: x3 :: x4 :: x5 :: x6 :: x7 :: x8 :: x9 :: x10 :: x11 :: x12 :: x13 :: x14 :: x15 :: x16 :: x17 :: x18 :: x19 :: v :: r:=id rfl
theorem st21 {x0 x1 x2 x3 x4 x5 x6 x7 x8 x9 x10 x11 x12 x13 x14 x15 x16 x17 x18 x19 x20 x21 : α} {r : List α} : List.set (x0 :: x1 :: x2 :: x3 :: x4 :: x5 :: x6 :: x7 :: x8 :: x9 :: x10 :: x11 :: x12 :: x13 :: x14 :: x15 :: x16 :: x17 :: x18 :: x19 :: x20 :: x21 :: r) 21 v = x0 :: x1 :: x2 :: x3 :: x4 :: x5 :: x6 :: x7 :: x8 :: x9 :: x10 :: x11 :: x12 :: x13 :: x14 :: x15 :: x16 :: x17 :: x18 :: x19 :: x20 :: v :: r:=id rfl
theorem st22 {x0 x1 x2 x3 x4 x5 x6 x7 x8 x9 x10 x11 x12 x13 x14 x15 x16 x17 x18 x19 x20 x21 x22 : α} {r : List α} : List.set (x0 :: x1 :: x2 :: x3 :: x4 :: x5 :: x6 :: x7 :: x8 :: x9 :: x10 :: x11 :: x12 :: x13 :: x14 :: x15 :: x16 :: x17 :: x18 :: x19 :: x20 :: x21 :: x22 :: r) 22 v = x0 :: x1 :: x2 :: x3 :: x4 :: x5 :: x6 :: x7 :: x8 :: x9 :: x10 :: x11 :: x12 :: x13 :: x14 :: x15 :: x16 :: x17 :: x18 :: x19 :: x20 :: x21 :: v :: r:=id rfl
theorem st23 {x0 x1 x2 x3 x4 x5 x6 x7 x8 x9 x10 x11 x12 x13 x14 x15 x16 x17 x18 x19 x20 x21 x22 x23 : α} {r : List α} : List.set (x0 :: x1 :: x2 :: x3 :: x4 :: x5 :: x6 :: x7 :: x8 :: x9 :: x10 :: x11 :: x12 :: x13 :: x14 :: x15 :: x16 :: x17 :: x18 :: x19 :: x20 :: x21 :: x22 :: x23 :: r) 23 v = x0 :: x1 :: x2 :: x3 :: x4 :: x5 :: x6 :: x7 :: x8 :: x9 :: x10 :: x11 :: x12 :: x13 :: x14 :: x15 :: x16 :: x17 :: x18 :: x19 :: x20 :: x21 :: x22 :: v :: r:=id rfl
theorem st24 {x0 x1 x2 x3 x4 x5 x6 x7 x8 x9 x10 x11 x12 x13 x14 x15 x16 x17 x18 x19 x20 x21 x22 x23 x24 : α} {r : List α} : List.set (x0 :: x1 :: x2 :: x3 :: x4 :: x5 :: x6 :: x7 :: x8 :: x9 :: x10 :: x11 :: x12 :: x13 :: x14 :: x15 :: x16 :: x17 :: x18 :: x19 :: x20 :: x21 :: x22 :: x23 :: x24 :: r) 24 v = x0 :: x1 :: x2 :: x3 :: x4 :: x5 :: x6 :: x7 :: x8 :: x9 :: x10 :: x11 :: x12 :: x13 :: x14 :: x15 :: x16 :: x17 :: x18 :: x19 :: x20 :: x21 :: x22 :: x23 :: v :: r:=id rfl
theorem st25 {x0 x1 x2 x3 x4 x5 x6 x7 x8 x9 x10 x11 x12 x13 x14 x15 x16 x17 x18 x19 x20 x21 x22 x23 x24 x25 : α} {r : List α} : List.set (x0 :: x1 :: x2 :: x3 :: x4 :: x5 :: x6 :: x7 :: x8 :: x9 :: x10 :: x11 :: x12 :: x13 :: x14 :: x15 :: x16 :: x17 :: x18 :: x19 :: x20 :: x21 :: x22 :: x23 :: x24 :: x25 :: r) 25 v = x0 :: x1 :: x2 :: x3 :: x4 :: x5 :: x6 :: x7 :: x8 :: x9 :: x10 :: x11 :: x12 :: x13 :: x14 :: x15 :: x16 :: x17 :: x18 :: x19 :: x20 :: x21 :: x22 :: x23 :: x24 :: v :: r:=id rfl
theorem st26 {x0 x1 x2 x3 x4 x5 x6 x7 x8 x9 x10 x11 x12 x13 x14 x15 x16 x17 x18 x19 x20 x21 x22 x23 x24 x25 x26 : α} {r : List α} : List.set (x0 :: x1 :: x2 :: x3 :: x4 :: x5 :: x6 :: x7 :: x8 :: x9 :: x10 :: x11 :: x12 :: x13 :: x14 :: x15 :: x16 :: x17 :: x18 :: x19 :: x20 :: x21 :: x22 :: x23 :: x24 :: x25 :: x26 :: r) 26 v = x0 :: x1 :: x2 :: x3 :: x4 :: x5 :: x6 :: x7 :: x8 :: x9 :: x10 :: x11 :: x12 :: x13 :: x14 :: x15 :: x16 :: x17 :: x18 :: x19 :: x20 :: x21 :: x22 :: x23 :: x24 :: x25 :: v :: r:=id rfl
theorem st27 {x0 x1 x2 x3 x4 x5 x6 x7 x8 x9 x10 x11 x12 x13 x14 x15 x16 x17 x18 x19 x20 x21 x22 x23 x24 x25 x26 x27 : α} {r : List α} : List.set (x0 :: x1 :: x2 :: x3 :: x4 :: x5 :: x6 :: x7 :: x8 :: x9 :: x10 :: x11 :: x12 :: x13 :: x14 :: x15 :: x16 :: x17 :: x18 :: x19 :: x20 :: x21 :: x22 :: x23 :: x24 :: x25 :: x26 :: x27 :: r) 27 v = x0 :: x1 :: x2 :: x3 :: x4 :: x5 :: x6 :: x7 :: x8 :: x9 :: x10 :: x11 :: x12 :: x13 :: x14 :: x15 :: x16 :: x17 :: x18 :: x19 :: x20 :: x21 :: x22 :: x23 :: x24 :: x25 :: x26 :: v :: r:=id rfl
theorem st28 {x0 x1 x2 x3 x4 x5 x6 x7 x8 x9 x10 x11 x12 x13 x14 x15 x16 x17 x18 x19 x20 x21 x22 x23 x24 x25 x26 x27 x28 : α} {r : List α} : List.set (x0 :: x1 :: x2 :: x3 :: x4 :: x5 :: x6 :: x7 :: x8 :: x9 :: x10 :: x11 :: x12 :: x13 :: x14 :: x15 :: x16 :: x17 :: x18 :: x19 :: x20 :: x21 :: x22 :: x23 :: x24 :: x25 :: x26 :: x27 :: x28 :: r) 28 v = x0 :: x1 :: x2 :: x3 :: x4 :: x5 :: x6 :: x7 :: x8 :: x9 :: x10 :: x11 :: x12 :: x13 :: x14 :: x15 :: x16 :: x17 :: x18 :: x19 :: x20 :: x21 :: x22 :: x23 :: x24 :: x25 :: x26 :: x27 :: v :: r:=id rfl
theorem st29 {x0 x1 x2 x3 x4 x5 x6 x7 x8 x9 x10 x11 x12 x13 x14 x15 x16 x17 x18 x19 x20 x21 x22 x23 x24 x25 x26 x27 x28 x29 : α} {r : List α} : List.set (x0 :: x1 :: x2 :: x3 :: x4 :: x5 :: x6 :: x7 :: x8 :: x9 :: x10 :: x11 :: x12 :: x13 :: x14 :: x15 :: x16 :: x17 :: x18 :: x19 :: x20 :: x21 :: x22 :: x23 :: x24 :: x25 :: x26 :: x27 :: x28 :: x29 :: r) 29 v = x0 :: x1 :: x2 :: x3 :: x4 :: x5 :: x6 :: x7 :: x8 :: x9 :: x10 :: x11 :: x12 :: x13 :: x14 :: x15 :: x16 :: x17 :: x18 :: x19 :: x20 :: x21 :: x22 :: x23 :: x24 :: x25 :: x26 :: x27 :: x28 :: v :: r:=id rfl
theorem st30 {x0 x1 x2 x3 x4 x5 x6 x7 x8 x9 x10 x11 x12 x13 x14 x15 x16 x17 x18 x19 x20 x21 x22 x23 x24 x25 x26 x27 x28 x29 x30 : α} {r : List α} : List.set (x0 :: x1 :: x2 :: x3 :: x4 :: x5 :: x6 :: x7 :: x8 :: x9 :: x10 :: x11 :: x12 :: x13 :: x14 :: x15 :: x16 :: x17 :: x18 :: x19 :: x20 :: x21 :: x22 :: x23 :: x24 :: x25 :: x26 :: x27 :: x28 :: x29 :: x30 :: r) 30 v = x0 :: x1 :: x2 :: x3 :: x4 :: x5 :: x6 :: x7 :: x8 :: x9 :: x10 :: x11 :: x12 :: x13 :: x14 :: x15 :: x16 :: x17 :: x18 :: x19 :: x20 :: x21 :: x22 :: x23 :: x24 :: x25 :: x26 :: x27 :: x28 :: x29 :: v :: r:=id rfl
theorem st31 {x0 x1 x2 x3 x4 x5 x6 x7 x8 x9 x10 x11 x12 x13 x14 x15 x16 x17 x18 x19 x20 x21 x22 x23 x24 x25 x26 x27 x28 x29 x30 x31 : α} {r : List α} : List.set (x0 :: x1 :: x2 :: x3 :: x4 :: x5 :: x6 :: x7 :: x8 :: x9 :: x10 :: x11 :: x12 :: x13 :: x14 :: x15 :: x16 :: x17 :: x18 :: x19 :: x20 :: x21 :: x22 :: x23 :: x24 :: x25 :: x26 :: x27 :: x28 :: x29 :: x30 :: x31 :: r) 31 v = x0 :: x1 :: x2 :: x3 :: x4 :: x5 :: x6 :: x7 :: x8 :: x9 :: x10 :: x11 :: x12 :: x13 :: x14 :: x15 :: x16 :: x17 :: x18 :: x19 :: x20 :: x21 :: x22 :: x23 :: x24 :: x25 :: x26 :: x27 :: x28 :: x29 :: x30 :: v :: r:=id rfl
theorem st32 {x0 x1 x2 x3 x4 x5 x6 x7 x8 x9 x10 x11 x12 x13 x14 x15 x16 x17 x18 x19 x20 x21 x22 x23 x24 x25 x26 x27 x28 x29 x30 x31 x32 : α} {r : List α} : List.set (x0 :: x1 :: x2 :: x3 :: x4 :: x5 :: x6 :: x7 :: x8 :: x9 :: x10 :: x11 :: x12 :: x13 :: x14 :: x15 :: x16 :: x17 :: x18 :: x19 :: x20 :: x21 :: x22 :: x23 :: x24 :: x25 :: x26 :: x27 :: x28 :: x29 :: x30 :: x31 :: x32 :: r) 32 v = x0 :: x1 :: x2 :: x3 :: x4 :: x5 :: x6 :: x7 :: x8 :: x9 :: x10 :: x11 :: x12 :: x13 :: x14 :: x15 :: x16 :: x17 :: x18 :: x19 :: x20 :: x21 :: x22 :: x23 :: x24 :: x25 :: x26 :: x27 :: x28 :: x29 :: x30 :: x31 :: v :: r:=id rfl
theorem st33 {x0 x1 x2 x3 x4 x5 x6 x7 x8 x9 x10 x11 x12 x13 x14 x15 x16 x17 x18 x19 x20 x21 x22 x23 x24 x25 x26 x27 x28 x29 x30 x31 x32 x33 : α} {r : List α} : List.set (x0 :: x1 :: x2 :: x3 :: x4 :: x5 :: x6 :: x7 :: x8 :: x9 :: x10 :: x11 :: x12 :: x13 :: x14 :: x15 :: x16 :: x17 :: x18 :: x19 :: x20 :: x21 :: x22 :: x23 :: x24 :: x25 :: x26 :: x27 :: x28 :: x29 :: x30 :: x31 :: x32 :: x33 :: r) 33 v = x0 :: x1 :: x2 :: x3 :: x4 :: x5 :: x6 :: x7 :: x8 :: x9 :: x10 :: x11 :: x12 :: x13 :: x14 :: x15 :: x16 :: x17 :: x18 :: x19 :: x20 :: x21 :: x22 :: x23 :: x24 :: x25 :: x26 :: x27 :: x28 :: x29 :: x30 :: x31 :: x32 :: v :: r:=id rfl
theorem st34 {x0 x1 x2 x3 x4 x5 x6 x7 x8 x9 x10 x11 x12 x13 x14 x15 x16 x17 x18 x19 x20 x21 x22 x23 x24 x25 x26 x27 x28 x29 x30 x31 x32 x33 x34 : α} {r : List α} : List.set (x0 :: x1 :: x2 :: x3 :: x4 :: x5 :: x6 :: x7 :: x8 :: x9 :: x10 :: x11 :: x12 :: x13 :: x14 :: x15 :: x16 :: x17 :: x18 :: x19 :: x20 :: x21 :: x22 :: x23 :: x24 :: x25 :: x26 :: x27 :: x28 :: x29 :: x30 :: x31 :: x32 :: x33 :: x34 :: r) 34 v = x0 :: x1 :: x2 :: x3 :: x4 :: x5 :: x6 :: x7 :: x8 :: x9 :: x10 :: x11 :: x12 :: x13 :: x14 :: x15 :: x16 :: x17 :: x18 :: x19 :: x20 :: x21 :: x22 :: x23 :: x24 :: x25 :: x26 :: x27 :: x28 :: x29 :: x30 :: x31 :: x32 :: x33 :: v :: r:=id rfl
theorem st35 {x0 x1 x2 x3 x4 x5 x6 x7 x8 x9 x10 x11 x12 x13 x14 x15 x16 x17 x18 x19 x20 x21 x22 x23 x24 x25 x26 x27 x28 x29 x30 x31 x32 x33 x34 x35 : α} {r : List α} : List.set (x0 :: x1 :: x2 :: x3 :: x4 :: x5 :: x6 :: x7 :: x8 :: x9 :: x10 :: x11 :: x12 :: x13 :: x14 :: x15 :: x16 :: x17 :: x18 :: x19 :: x20 :: x21 :: x22 :: x23 :: x24 :: x25 :: x26 :: x27 :: x28 :: x29 :: x30 :: x31 :: x32 :: x33 :: x34 :: x35 :: r) 35 v = x0 :: x1 :: x2 :: x3 :: x4 :: x5 :: x6 :: x7 :: x8 :: x9 :: x10 :: x11 :: x12 :: x13 :: x14 :: x15 :: x16 :: x17 :: x18 :: x19 :: x20 :: x21 :: x22 :: x23 :: x24 :: x25 :: x26 :: x27 :: x28 :: x29 :: x30 :: x31 :: x32 :: x33 :: x34 :: v :: r:=id rfl
theorem st36 {x0 x1 x2 x3 x4 x5 x6 x7 x8 x9 x10 x11 x12 x13 x14 x15 x16 x17 x18 x19 x20 x21 x22 x23 x24 x25 x26 x27 x28 x29 x30 x31 x32 x33 x34 x35 x36 : α} {r : List α} : List.set (x0 :: x1 :: x2 :: x3 :: x4 :: x5 :: x6 :: x7 :: x8 :: x9 :: x10 :: x11 :: x12 :: x13 :: x14 :: x15 :: x16 :: x17 :: x18 :: x19 :: x20 :: x21 :: x22 :: x23 :: x24 :: x25 :: x26 :: x27 :: x28 :: x29 :: x30 :: x31 :: x32 :: x33 :: x34 :: x35 :: x36 :: r) 36 v = x0 :: x1 :: x2 :: x3 :: x4 :: x5 :: x6 :: x7 :: x8 :: x9 :: x10 :: x11 :: x12 :: x13 :: x14 :: x15 :: x16 :: x17 :: x18 :: x19 :: x20 :: x21 :: x22 :: x23 :: x24 :: x25 :: x26 :: x27 :: x28 :: x29 :: x30 :: x31 :: x32 :: x33 :: x34 :: x35 :: v :: r:=id rfl
theorem st37 {x0 x1 x2 x3 x4 x5 x6 x7 x8 x9 x10 x11 x12 x13 x14 x15 x16 x17 x18 x19 x20 x21 x22 x23 x24 x25 x26 x27 x28 x29 x30 x31 x32 x33 x34 x35 x36 x37 : α} {r : List α} : List.set (x0 :: x1 :: x2 :: x3 :: x4 :: x5 :: x6 :: x7 :: x8 :: x9 :: x10 :: x11 :: x12 :: x13 :: x14 :: x15 :: x16 :: x17 :: x18 :: x19 :: x20 :: x21 :: x22 :: x23 :: x24 :: x25 :: x26 :: x27 :: x28 :: x29 :: x30 :: x31 :: x32 :: x33 :: x34 :: x35 :: x36 :: x37 :: r) 37 v = x0 :: x1 :: x2 :: x3 :: x4 :: x5 :: x6 :: x7 :: x8 :: x9 :: x10 :: x11 :: x12 :: x13 :: x14 :: x15 :: x16 :: x17 :: x18 :: x19 :: x20 :: x21 :: x22 :: x23 :: x24 :: x25 :: x26 :: x27 :: x28 :: x29 :: x30 :: x31 :: x32 :: x33 :: x34 :: x35 :: x36 :: v :: r:=id rfl
theorem st38 {x0 x1 x2 x3 x4 x5 x6 x7 x8 x9 x10 x11 x12 x13 x14 x15 x16 x17 x18 x19 x20 x21 x22 x23 x24 x25 x26 x27 x28 x29 x30 x31 x32 x33 x34 x35 x36 x37 x38 : α} {r : List α} : List.set (x0 :: x1 :: x2 :: x3 :: x4 :: x5 :: x6 :: x7 :: x8 :: x9 :: x10 :: x11 :: x12 :: x13 :: x14 :: x15 :: x16 :: x17 :: x18 :: x19 :: x20 :: x21 :: x22 :: x23 :: x24 :: x25 :: x26 :: x27 :: x28 :: x29 :: x30 :: x31 :: x32 :: x33 :: x34 :: x35 :: x36 :: x37 :: x38 :: r) 38 v = x0 :: x1 :: x2 :: x3 :: x4 :: x5 :: x6 :: x7 :: x8 :: x9 :: x10 :: x11 :: x12 :: x13 :: x14 :: x15 :: x16 :: x17 :: x18 :: x19 :: x20 :: x21 :: x22 :: x23 :: x24 :: x25 :: x26 :: x27 :: x28 :: x29 :: x30 :: x31 :: x32 :: x33 :: x34 :: x35 :: x36 :: x37 :: v :: r:=id rfl
theorem st39 {x0 x1 x2 x3 x4 x5 x6 x7 x8 x9 x10 x11 x12 x13 x14 x15 x16 x17 x18 x19 x20 x21 x22 x23 x24 x25 x26 x27 x28 x29 x30 x31 x32 x33 x34 x35 x36 x37 x38 x39 : α} {r : List α} : List.set (x0 :: x1 :: x2 :: x3 :: x4 :: x5 :: x6 :: x7 :: x8 :: x9 :: x10 :: x11 :: x12 :: x13 :: x14 :: x15 :: x16 :: x17 :: x18 :: x19 :: x20 :: x21 :: x22 :: x23 :: x24 :: x25 :: x26 :: x27 :: x28 :: x29 :: x30 :: x31 :: x32 :: x33 :: x34 :: x35 :: x36 :: x37 :: x38 :: x39 :: r) 39 v = x0 :: x1 :: x2 :: x3 :: x4 :: x5 :: x6 :: x7 :: x8 :: x9 :: x10 :: x11 :: x12 :: x13 :: x14 :: x15 :: x16 :: x17 :: x18 :: x19 :: x20 :: x21 :: x22 :: x23 :: x24 :: x25 :: x26 :: x27 :: x28 :: x29 :: x30 :: x31 :: x32 :: x33 :: x34 :: x35 :: x36 :: x37 :: x38 :: v :: r:=id rfl
theorem st40 {x0 x1 x2 x3 x4 x5 x6 x7 x8 x9 x10 x11 x12 x13 x14 x15 x16 x17 x18 x19 x20 x21 x22 x23 x24 x25 x26 x27 x28 x29 x30 x31 x32 x33 x34 x35 x36 x37 x38 x39 x40 : α} {r : List α} : List.set (x0 :: x1 :: x2 :: x3 :: x4 :: x5 :: x6 :: x7 :: x8 :: x9 :: x10 :: x11 :: x12 :: x13 :: x14 :: x15 :: x16 :: x17 :: x18 :: x19 :: x20 :: x21 :: x22 :: x23 :: x24 :: x25 :: x26 :: x27 :: x28 :: x29 :: x30 :: x31 :: x32 :: x33 :: x34 :: x35 :: x36 :: x37 :: x38 :: x39 :: x40 :: r) 40 v = x0 :: x1 :: x2 :: x3 :: x4 :: x5 :: x6 :: x7 :: x8 :: x9 :: x10 :: x11 :: x12 :: x13 :: x14 :: x15 :: x16 :: x17 :: x18 :: x19 :: x20 :: x21 :: x22 :: x23 :: x24 :: x25 :: x26 :: x27 :: x28 :: x29 :: x30 :: x31 :: x32 :: x33 :: x34 :: x35 :: x36 :: x37 :: x38 :: x39 :: v :: r:=id rfl
theorem st41 {x0 x1 x2 x3 x4 x5 x6 x7 x8 x9 x10 x11 x12 x13 x14 x15 x16 x17 x18 x19 x20 x21 x22 x23 x24 x25 x26 x27 x28 x29 x30 x31 x32 x33 x34 x35 x36 x37 x38 x39 x40 x41 : α} {r : List α} : List.set (x0 :: x1 :: x2 :: x3 :: x4 :: x5 :: x6 :: x7 :: x8 :: x9 :: x10 :: x11 :: x12 :: x13 :: x14 :: x15 :: x16 :: x17 :: x18 :: x19 :: x20 :: x21 :: x22 :: x23 :: x24 :: x25 :: x26 :: x27 :: x28 :: x29 :: x30 :: x31 :: x32 :: x33 :: x34 :: x35 :: x36 :: x37 :: x38 :: x39 :: x40 :: x41 :: r) 41 v = x0 :: x1 :: x2 :: x3 :: x4 :: x5 :: x6 :: x7 :: x8 :: x9 :: x10 :: x11 :: x12 :: x13 :: x14 :: x15 :: x16 :: x17 :: x18 :: x19 :: x20 :: x21 :: x22 :: x23 :: x24 :: x25 :: x26 :: x27 :: x28 :: x29 :: x30 :: x31 :: x32 :: x33 :: x34 :: x35 :: x36 :: x37 :: x38 :: x39 :: x40 :: v :: r:=id rfl
theorem st42 {x0 x1 x2 x3 x4 x5 x6 x7 x8 x9 x10 x11 x12 x13 x14 x15 x16 x17 x18 x19 x20 x21 x22 x23 x24 x25 x26 x27 x28 x29 x30 x31 x32 x33 x34 x35 x36 x37 x38 x39 x40 x41 x42 : α} {r : List α} : List.set (x0 :: x1 :: x2 :: x3 :: x4 :: x5 :: x6 :: x7 :: x8 :: x9 :: x10 :: x11 :: x12 :: x13 :: x14 :: x15 :: x16 :: x17 :: x18 :: x19 :: x20 :: x21 :: x22 :: x23 :: x24 :: x25 :: x26 :: x27 :: x28 :: x29 :: x30 :: x31 :: x32 :: x33 :: x34 :: x35 :: x36 :: x37 :: x38 :: x39 :: x40 :: x41 :: x42 :: r) 42 v = x0 :: x1 :: x2 :: x3 :: x4 :: x5 :: x6 :: x7 :: x8 :: x9 :: x10 :: x11 :: x12 :: x13 :: x14 :: x15 :: x16 :: x17 :: x18 :: x19 :: x20 :: x21 :: x22 :: x23 :: x24 :: x25 :: x26 :: x27 :: x28 :: x29 :: x30 :: x31 :: x32 :: x33 :: x34 :: x35 :: x36 :: x37 :: x38 :: x39 :: x40 :: x41 :: v :: r:=id rfl
theorem st43 {x0 x1 x2 x3 x4 x5 x6 x7 x8 x9 x10 x11 x12 x13 x14 x15 x16 x17 x18 x19 x20 x21 x22 x23 x24 x25 x26 x27 x28 x29 x30 x31 x32 x33 x34 x35 x36 x37 x38 x39 x40 x41 x42 x43 : α} {r : List α} : List.set (x0 :: x1 :: x2 :: x3 :: x4 :: x5 :: x6 :: x7 :: x8 :: x9 :: x10 :: x11 :: x12 :: x13 :: x14 :: x15 :: x16 :: x17 :: x18 :: x19 :: x20 :: x21 :: x22 :: x23 :: x24 :: x25 :: x26 :: x27 :: x28 :: x29 :: x30 :: x31 :: x32 :: x33 :: x34 :: x35 :: x36 :: x37 :: x38 :: x39 :: x40 :: x41 :: x42 :: x43 :: r) 43 v = x0 :: x1 :: x2 :: x3 :: x4 :: x5 :: x6 :: x7 :: x8 :: x9 :: x10 :: x11 :: x12 :: x13 :: x14 :: x15 :: x16 :: x17 :: x18 :: x19 :: x20 :: x21 :: x22 :: x23 :: x24 :: x25 :: x26 :: x27 :: x28 :: x29 :: x30 :: x31 :: x32 :: x33 :: x34 :: x35 :: x36 :: x37 :: x38 :: x39 :: x40 :: x41 :: x42 :: v :: r:=id rfl
theorem st44 {x0 x1 x2 x3 x4 x5 x6 x7 x8 x9 x10 x11 x12 x13 x14 x15 x16 x17 x18 x19 x20 x21 x22 x23 x24 x25 x26 x27 x28 x29 x30 x31 x32 x33 x34 x35 x36 x37 x38 x39 x40 x41 x42 x43 x44 : α} {r : List α} : List.set (x0 :: x1 :: x2 :: x3 :: x4 :: x5 :: x6 :: x7 :: x8 :: x9 :: x10 :: x11 :: x12 :: x13 :: x14 :: x15 :: x16 :: x17 :: x18 :: x19 :: x20 :: x21 :: x22 :: x23 :: x24 :: x25 :: x26 :: x27 :: x28 :: x29 :: x30 :: x31 :: x32 :: x33 :: x34 :: x35 :: x36 :: x37 :: x38 :: x39 :: x40 :: x41 :: x42 :: x43 :: x44 :: r) 44 v = x0 :: x1 :: x2 :: x3 :: x4 :: x5 :: x6 :: x7 :: x8 :: x9 :: x10 :: x11 :: x12 :: x13 :: x14 :: x15 :: x16 :: x17 :: x18 :: x19 :: x20 :: x21 :: x22 :: x23 :: x24 :: x25 :: x26 :: x27 :: x28 :: x29 :: x30 :: x31 :: x32 :: x33 :: x34 :: x35 :: x36 :: x37 :: x38 :: x39 :: x40 :: x41 :: x42 :: x43 :: v :: r:=id rfl
theorem st45 {x0 x1 x2 x3 x4 x5 x6 x7 x8 x9 x10 x11 x12 x13 x14 x15 x16 x17 x18 x19 x20 x21 x22 x23 x24 x25 x26 x27 x28 x29 x30 x31 x32 x33 x34 x35 x36 x37 x38 x39 x40 x41 x42 x43 x44 x45 : α} {r : List α} : List.set (x0 :: x1 :: x2 :: x3 :: x4 :: x5 :: x6 :: x7 :: x8 :: x9 :: x10 :: x11 :: x12 :: x13 :: x14 :: x15 :: x16 :: x17 :: x18 :: x19 :: x20 :: x21 :: x22 :: x23 :: x24 :: x25 :: x26 :: x27 :: x28 :: x29 :: x30 :: x31 :: x32 :: x33 :: x34 :: x35 :: x36 :: x37 :: x38 :: x39 :: x40 :: x41 :: x42 :: x43 :: x44 :: x45 :: r) 45 v = x0 :: x1 :: x2 :: x3 :: x4 :: x5 :: x6 :: x7 :: x8 :: x9 :: x10 :: x11 :: x12 :: x13 :: x14 :: x15 :: x16 :: x17 :: x18 :: x19 :: x20 :: x21 :: x22 :: x23 :: x24 :: x25 :: x26 :: x27 :: x28 :: x29 :: x30 :: x31 :: x32 :: x33 :: x34 :: x35 :: x36 :: x37 :: x38 :: x39 :: x40 :: x41 :: x42 :: x43 :: x44 :: v :: r:=id rfl
theorem st46 {x0 x1 x2 x3 x4 x5 x6 x7 x8 x9 x10 x11 x12 x13 x14 x15 x16 x17 x18 x19 x20 x21 x22 x23 x24 x25 x26 x27 x28 x29 x30 x31 x32 x33 x34 x35 x36 x37 x38 x39 x40 x41 x42 x43 x44 x45 x46 : α} {r : List α} : List.set (x0 :: x1 :: x2 :: x3 :: x4 :: x5 :: x6 :: x7 :: x8 :: x9 :: x10 :: x11 :: x12 :: x13 :: x14 :: x15 :: x16 :: x17 :: x18 :: x19 :: x20 :: x21 :: x22 :: x23 :: x24 :: x25 :: x26 :: x27 :: x28 :: x29 :: x30 :: x31 :: x32 :: x33 :: x34 :: x35 :: x36 :: x37 :: x38 :: x39 :: x40 :: x41 :: x42 :: x43 :: x44 :: x45 :: x46 :: r) 46 v = x0 :: x1 :: x2 :: x3 :: x4 :: x5 :: x6 :: x7 :: x8 :: x9 :: x10 :: x11 :: x12 :: x13 :: x14 :: x15 :: x16 :: x17 :: x18 :: x19 :: x20 :: x21 :: x22 :: x23 :: x24 :: x25 :: x26 :: x27 :: x28 :: x29 :: x30 :: x31 :: x32 :: x33 :: x34 :: x35 :: x36 :: x37 :: x38 :: x39 :: x40 :: x41 :: x42 :: x43 :: x44 :: x45 :: v :: r:=id rfl
theorem st47 {x0 x1 x2 x3 x4 x5 x6 x7 x8 x9 x10 x11 x12 x13 x14 x15 x16 x17 x18 x19 x20 x21 x22 x23 x24 x25 x26 x27 x28 x29 x30 x31 x32 x33 x34 x35 x36 x37 x38 x39 x40 x41 x42 x43 x44 x45 x46 x47 : α} {r : List α} : List.set (x0 :: x1 :: x2 :: x3 :: x4 :: x5 :: x6 :: x7 :: x8 :: x9 :: x10 :: x11 :: x12 :: x13 :: x14 :: x15 :: x16 :: x17 :: x18 :: x19 :: x20 :: x21 :: x22 :: x23 :: x24 :: x25 :: x26 :: x27 :: x28 :: x29 :: x30 :: x31 :: x32 :: x33 :: x34 :: x35 :: x36 :: x37 :: x38 :: x39 :: x40 :: x41 :: x42 :: x43 :: x44 :: x45 :: x46 :: x47 :: r) 47 v = x0 :: x1 :: x2 :: x3 :: x4 :: x5 :: x6 :: x7 :: x8 :: x9 :: x10 :: x11 :: x12 :: x13 :: x14 :: x15 :: x16 :: x17 :: x18 :: x19 :: x20 :: x21 :: x22 :: x23 :: x24 :: x25 :: x26 :: x27 :: x28 :: x29 :: x30 :: x31 :: x32 :: x33 :: x34 :: x35 :: x36 :: x37 :: x38 :: x39 :: x40 :: x41 :: x42 :: x43 :: x44 :: x45 :: x46 :: v :: r:=id rfl
theorem st48 {x0 x1 x2 x3 x4 x5 x6 x7 x8 x9 x10 x11 x12 x13 x14 x15 x16 x17 x18 x19 x20 x21 x22 x23 x24 x25 x26 x27 x28 x29 x30 x31 x32 x33 x34 x35 x36 x37 x38 x39 x40 x41 x42 x43 x44 x45 x46 x47 x48 : α} {r : List α} : List.set (x0 :: x1 :: x2 :: x3 :: x4 :: x5 :: x6 :: x7 :: x8 :: x9 :: x10 :: x11 :: x12 :: x13 :: x14 :: x15 :: x16 :: x17 :: x18 :: x19 :: x20 :: x21 :: x22 :: x23 :: x24 :: x25 :: x26 :: x27 :: x28 :: x29 :: x30 :: x31 :: x32 :: x33 :: x34 :: x35 :: x36 :: x37 :: x38 :: x39 :: x40 :: x41 :: x42 :: x43 :: x44 :: x45 :: x46 :: x47 :: x48 :: r) 48 v = x0 :: x1 :: x2 :: x3 :: x4 :: x5 :: x6 :: x7 :: x8 :: x9 :: x10 :: x11 :: x12 :: x13 :: x14 :: x15 :: x16 :: x17 :: x18 :: x19 :: x20 :: x21 :: x22 :: x23 :: x24 :: x25 :: x26 :: x27 :: x28 :: x29 :: x30 :: x31 :: x32 :: x33 :: x34 :: x35 :: x36 :: x37 :: x38 :: x39 :: x40 :: x41 :: x42 :: x43 :: x44 :: x45 :: x46 :: x47 :: v :: r:=id rfl
theorem st49 {x0 x1 x2 x3 x4 x5 x6 x7 x8 x9 x10 x11 x12 x13 x14 x15 x16 x17 x18 x19 x20 x21 x22 x23 x24 x25 x26 x27 x28 x29 x30 x31 x32 x33 x34 x35 x36 x37 x38 x39 x40 x41 x42 x43 x44 x45 x46 x47 x48 x49 : α} {r : List α} : List.set (x0 :: x1 :: x2 :: x3 :: x4 :: x5 :: x6 :: x7 :: x8 :: x9 :: x10 :: x11 :: x12 :: x13 :: x14 :: x15 :: x16 :: x17 :: x18 :: x19 :: x20 :: x21 :: x22 :: x23 :: x24 :: x25 :: x26 :: x27 :: x28 :: x29 :: x30 :: x31 :: x32 :: x33 :: x34 :: x35 :: x36 :: x37 :: x38 :: x39 :: x40 :: x41 :: x42 :: x43 :: x44 :: x45 :: x46 :: x47 :: x48 :: x49 :: r) 49 v = x0 :: x1 :: x2 :: x3 :: x4 :: x5 :: x6 :: x7 :: x8 :: x9 :: x10 :: x11 :: x12 :: x13 :: x14 :: x15 :: x16 :: x17 :: x18 :: x19 :: x20 :: x21 :: x22 :: x23 :: x24 :: x25 :: x26 :: x27 :: x28 :: x29 :: x30 :: x31 :: x32 :: x33 :: x34 :: x35 :: x36 :: x37 :: x38 :: x39 :: x40 :: x41 :: x42 :: x43 :: x44 :: x45 :: x46 :: x47 :: x48 :: v :: r:=id rfl
theorem st50 {x0 x1 x2 x3 x4 x5 x6 x7 x8 x9 x10 x11 x12 x13 x14 x15 x16 x17 x18 x19 x20 x21 x22 x23 x24 x25 x26 x27 x28 x29 x30 x31 x32 x33 x34 x35 x36 x37 x38 x39 x40 x41 x42 x43 x44 x45 x46 x47 x48 x49 x50 : α} {r : List α} : List.set (x0 :: x1 :: x2 :: x3 :: x4 :: x5 :: x6 :: x7 :: x8 :: x9 :: x10 :: x11 :: x12 :: x13 :: x14 :: x15 :: x16 :: x17 :: x18 :: x19 :: x20 :: x21 :: x22 :: x23 :: x24 :: x25 :: x26 :: x27 :: x28 :: x29 :: x30 :: x31 :: x32 :: x33 :: x34 :: x35 :: x36 :: x37 :: x38 :: x39 :: x40 :: x41 :: x42 :: x43 :: x44 :: x45 :: x46 :: x47 :: x48 :: x49 :: x50 :: r) 50 v = x0 :: x1 :: x2 :: x3 :: x4 :: x5 :: x6 :: x7 :: x8 :: x9 :: x10 :: x11 :: x12 :: x13 :: x14 :: x15 :: x16 :: x17 :: x18 :: x19 :: x20 :: x21 :: x22 :: x23 :: x24 :: x25 :: x26 :: x27 :: x28 :: x29 :: x30 :: x31 :: x32 :: x33 :: x34 :: x35 :: x36 :: x37 :: x38 :: x39 :: x40 :: x41 :: x42 :: x43 :: x44 :: x45 :: x46 :: x47 :: x48 :: x49 :: v :: r:=id rfl
theorem st51 {x0 x1 x2 x3 x4 x5 x6 x7 x8 x9 x10 x11 x12 x13 x14 x15 x16 x17 x18 x19 x20 x21 x22 x23 x24 x25 x26 x27 x28 x29 x30 x31 x32 x33 x34 x35 x36 x37 x38 x39 x40 x41 x42 x43 x44 x45 x46 x47 x48 x49 x50 x51 : α} {r : List α} : List.set (x0 :: x1 :: x2 :: x3 :: x4 :: x5 :: x6 :: x7 :: x8 :: x9 :: x10 :: x11 :: x12 :: x13 :: x14 :: x15 :: x16 :: x17 :: x18 :: x19 :: x20 :: x21 :: x22 :: x23 :: x24 :: x25 :: x26 :: x27 :: x28 :: x29 :: x30 :: x31 :: x32 :: x33 :: x34 :: x35 :: x36 :: x37 :: x38 :: x39 :: x40 :: x41 :: x42 :: x43 :: x44 :: x45 :: x46 :: x47 :: x48 :: x49 :: x50 :: x51 :: r) 51 v = x0 :: x1 :: x2 :: x3 :: x4 :: x5 :: x6 :: x7 :: x8 :: x9 :: x10 :: x11 :: x12 :: x13 :: x14 :: x15 :: x16 :: x17 :: x18 :: x19 :: x20 :: x21 :: x22 :: x23 :: x24 :: x25 :: x26 :: x27 :: x28 :: x29 :: x30 :: x31 :: x32 :: x33 :: x34 :: x35 :: x36 :: x37 :: x38 :: x39 :: x40 :: x41 :: x42 :: x43 :: x44 :: x45 :: x46 :: x47 :: x48 :: x49 :: x50 :: v :: r:=id rfl
theorem st52 {x0 x1 x2 x3 x4 x5 x6 x7 x8 x9 x10 x11 x12 x13 x14 x15 x16 x17 x18 x19 x20 x21 x22 x23 x24 x25 x26 x27 x28 x29 x30 x31 x32 x33 x34 x35 x36 x37 x38 x39 x40 x41 x42 x43 x44 x45 x46 x47 x48 x49 x50 x51 x52 : α} {r : List α} : List.set (x0 :: x1 :: x2 :: x3 :: x4 :: x5 :: x6 :: x7 :: x8 :: x9 :: x10 :: x11 :: x12 :: x13 :: x14 :: x15 :: x16 :: x17 :: x18 :: x19 :: x20 :: x21 :: x22 :: x23 :: x24 :: x25 :: x26 :: x27 :: x28 :: x29 :: x30 :: x31 :: x32 :: x33 :: x34 :: x35 :: x36 :: x37 :: x38 :: x39 :: x40 :: x41 :: x42 :: x43 :: x44 :: x45 :: x46 :: x47 :: x48 :: x49 :: x50 :: x51 :: x52 :: r) 52 v = x0 :: x1 :: x2 :: x3 :: x4 :: x5 :: x6 :: x7 :: x8 :: x9 :: x10 :: x11 :: x12 :: x13 :: x14 :: x15 :: x16 :: x17 :: x18 :: x19 :: x20 :: x21 :: x22 :: x23 :: x24 :: x25 :: x26 :: x27 :: x28 :: x29 :: x30 :: x31 :: x32 :: x33 :: x34 :: x35 :: x36 :: x37 :: x38 :: x39 :: x40 :: x41 :: x42 :: x43 :: x44 :: x45 :: x46 :: x47 :: x48 :: x49 :: x50 :: x51 :: v :: r:=id rfl
theorem st53 {x0 x1 x2 x3 x4 x5 x6 x7 x8 x9 x10 x11 x12 x13 x14 x15 x16 x17 x18 x19 x20 x21 x22 x23 x24 x25 x26 x27 x28 x29 x30 x31 x32 x33 x34 x35 x36 x37 x38 x39 x40 x41 x42 x43 x44 x45 x46 x47 x48 x49 x50 x51 x52 x53 : α} {r : List α} : List.set (x0 :: x1 :: x2 :: x3 :: x4 :: x5 :: x6 :: x7 :: x8 :: x9 :: x10 :: x11 :: x12 :: x13 :: x14 :: x15 :: x16 :: x17 :: x18 :: x19 :: x20 :: x21 :: x22 :: x23 :: x24 :: x25 :: x26 :: x27 :: x28 :: x29 :: x30 :: x31 :: x32 :: x33 :: x34 :: x35 :: x36 :: x37 :: x38 :: x39 :: x40 :: x41 :: x42 :: x43 :: x44 :: x45 :: x46 :: x47 :: x48 :: x49 :: x50 :: x51 :: x52 :: x53 :: r) 53 v = x0 :: x1 :: x2 :: x3 :: x4 :: x5 :: x6 :: x7 :: x8 :: x9 :: x10 :: x11 :: x12 :: x13 :: x14 :: x15 :: x16 :: x17 :: x18 :: x19 :: x20 :: x21 :: x22 :: x23 :: x24 :: x25 :: x26 :: x27 :: x28 :: x29 :: x30 :: x31 :: x32 :: x33 :: x34 :: x35 :: x36 :: x37 :: x38 :: x39 :: x40 :: x41 :: x42 :: x43 :: x44 :: x45 :: x46 :: x47 :: x48 :: x49 :: x50 :: x51 :: x52 :: v :: r:=id rfl
theorem st54 {x0 x1 x2 x3 x4 x5 x6 x7 x8 x9 x10 x11 x12 x13 x14 x15 x16 x17 x18 x19 x20 x21 x22 x23 x24 x25 x26 x27 x28 x29 x30 x31 x32 x33 x34 x35 x36 x37 x38 x39 x40 x41 x42 x43 x44 x45 x46 x47 x48 x49 x50 x51 x52 x53 x54 : α} {r : List α} : List.set (x0 :: x1 :: x2 :: x3 :: x4 :: x5 :: x6 :: x7 :: x8 :: x9 :: x10 :: x11 :: x12 :: x13 :: x14 :: x15 :: x16 :: x17 :: x18 :: x19 :: x20 :: x21 :: x22 :: x23 :: x24 :: x25 :: x26 :: x27 :: x28 :: x29 :: x30 :: x31 :: x32 :: x33 :: x34 :: x35 :: x36 :: x37 :: x38 :: x39 :: x40 :: x41 :: x42 :: x43 :: x44 :: x45 :: x46 :: x47 :: x48 :: x49 :: x50 :: x51 :: x52 :: x53 :: x54 :: r) 54 v = x0 :: x1 :: x2 :: x3 :: x4 :: x5 :: x6 :: x7 :: x8 :: x9 :: x10 :: x11 :: x12 :: x13 :: x14 :: x15 :: x16 :: x17 :: x18 :: x19 :: x20 :: x21 :: x22 :: x23 :: x24 :: x25 :: x26 :: x27 :: x28 :: x29 :: x30 :: x31 :: x32 :: x33 :: x34 :: x35 :: x36 :: x37 :: x38 :: x39 :: x40 :: x41 :: x42 :: x43 :: x44 :: x45 :: x46 :: x47 :: x48 :: x49 :: x50 :: x51 :: x52 :: x53 :: v :: r:=id rfl
theorem st55 {x0 x1 x2 x3 x4 x5 x6 x7 x8 x9 x10 x11 x12 x13 x14 x15 x16 x17 x18 x19 x20 x21 x22 x23 x24 x25 x26 x27 x28 x29 x30 x31 x32 x33 x34 x35 x36 x37 x38 x39 x40 x41 x42 x43 x44 x45 x46 x47 x48 x49 x50 x51 x52 x53 x54 x55 : α} {r : List α} : List.set (x0 :: x1 :: x2 :: x3 :: x4 :: x5 :: x6 :: x7 :: x8 :: x9 :: x10 :: x11 :: x12 :: x13 :: x14 :: x15 :: x16 :: x17 :: x18 :: x19 :: x20 :: x21 :: x22 :: x23 :: x24 :: x25 :: x26 :: x27 :: x28 :: x29 :: x30 :: x31 :: x32 :: x33 :: x34 :: x35 :: x36 :: x37 :: x38 :: x39 :: x40 :: x41 :: x42 :: x43 :: x44 :: x45 :: x46 :: x47 :: x48 :: x49 :: x50 :: x51 :: x52 :: x53 :: x54 :: x55 :: r) 55 v = x0 :: x1 :: x2 :: x3 :: x4 :: x5 :: x6 :: x7 :: x8 :: x9 :: x10 :: x11 :: x12 :: x13 :: x14 :: x15 :: x16 :: x17 :: x18 :: x19 :: x20 :: x21 :: x22 :: x23 :: x24 :: x25 :: x26 :: x27 :: x28 :: x29 :: x30 :: x31 :: x32 :: x33 :: x34 :: x35 :: x36 :: x37 :: x38 :: x39 :: x40 :: x41 :: x42 :: x43 :: x44 :: x45 :: x46 :: x47 :: x48 :: x49 :: x50 :: x51 :: x52 :: x53 :: x54 :: v :: r:=id rfl
theorem st56 {x0 x1 x2 x3 x4 x5 x6 x7 x8 x9 x10 x11 x12 x13 x14 x15 x16 x17 x18 x19 x20 x21 x22 x23 x24 x25 x26 x27 x28 x29 x30 x31 x32 x33 x34 x35 x36 x37 x38 x39 x40 x41 x42 x43 x44 x45 x46 x47 x48 x49 x50 x51 x52 x53 x54 x55 x56 : α} {r : List α} : List.set (x0 :: x1 :: x2 :: x3 :: x4 :: x5 :: x6 :: x7 :: x8 :: x9 :: x10 :: x11 :: x12 :: x13 :: x14 :: x15 :: x16 :: x17 :: x18 :: x19 :: x20 :: x21 :: x22 :: x23 :: x24 :: x25 :: x26 :: x27 :: x28 :: x29 :: x30 :: x31 :: x32 :: x33 :: x34 :: x35 :: x36 :: x37 :: x38 :: x39 :: x40 :: x41 :: x42 :: x43 :: x44 :: x45 :: x46 :: x47 :: x48 :: x49 :: x50 :: x51 :: x52 :: x53 :: x54 :: x55 :: x56 :: r) 56 v = x0 :: x1 :: x2 :: x3 :: x4 :: x5 :: x6 :: x7 :: x8 :: x9 :: x10 :: x11 :: x12 :: x13 :: x14 :: x15 :: x16 :: x17 :: x18 :: x19 :: x20 :: x21 :: x22 :: x23 :: x24 :: x25 :: x26 :: x27 :: x28 :: x29 :: x30 :: x31 :: x32 :: x33 :: x34 :: x35 :: x36 :: x37 :: x38 :: x39 :: x40 :: x41 :: x42 :: x43 :: x44 :: x45 :: x46 :: x47 :: x48 :: x49 :: x50 :: x51 :: x52 :: x53 :: x54 :: x55 :: v :: r:=id rfl
theorem st57 {x0 x1 x2 x3 x4 x5 x6 x7 x8 x9 x10 x11 x12 x13 x14 x15 x16 x17 x18 x19 x20 x21 x22 x23 x24 x25 x26 x27 x28 x29 x30 x31 x32 x33 x34 x35 x36 x37 x38 x39 x40 x41 x42 x43 x44 x45 x46 x47 x48 x49 x50 x51 x52 x53 x54 x55 x56 x57 : α} {r : List α} : List.set (x0 :: x1 :: x2 :: x3 :: x4 :: x5 :: x6 :: x7 :: x8 :: x9 :: x10 :: x11 :: x12 :: x13 :: x14 :: x15 :: x16 :: x17 :: x18 :: x19 :: x20 :: x21 :: x22 :: x23 :: x24 :: x25 :: x26 :: x27 :: x28 :: x29 :: x30 :: x31 :: x32 :: x33 :: x34 :: x35 :: x36 :: x37 :: x38 :: x39 :: x40 :: x41 :: x42 :: x43 :: x44 :: x45 :: x46 :: x47 :: x48 :: x49 :: x50 :: x51 :: x52 :: x53 :: x54 :: x55 :: x56 :: x57 :: r) 57 v = x0 :: x1 :: x2 :: x3 :: x4 :: x5 :: x6 :: x7 :: x8 :: x9 :: x10 :: x11 :: x12 :: x13 :: x14 :: x15 :: x16 :: x17 :: x18 :: x19 :: x20 :: x21 :: x22 :: x23 :: x24 :: x25 :: x26 :: x27 :: x28 :: x29 :: x30 :: x31 :: x32 :: x33 :: x34 :: x35 :: x36 :: x37 :: x38 :: x39 :: x40 :: x41 :: x42 :: x43 :: x44 :: x45 :: x46 :: x47 :: x48 :: x49 :: x50 :: x51 :: x52 :: x53 :: x54 :: x55 :: x56 :: v :: r:=id rfl
theorem st58 {x0 x1 x2 x3 x4 x5 x6 x7 x8 x9 x10 x11 x12 x13 x14 x15 x16 x17 x18 x19 x20 x21 x22 x23 x24 x25 x26 x27 x28 x29 x30 x31 x32 x33 x34 x35 x36 x37 x38 x39 x40 x41 x42 x43 x44 x45 x46 x47 x48 x49 x50 x51 x52 x53 x54 x55 x56 x57 x58 : α} {r : List α} : List.set (x0 :: x1 :: x2 :: x3 :: x4 :: x5 :: x6 :: x7 :: x8 :: x9 :: x10 :: x11 :: x12 :: x13 :: x14 :: x15 :: x16 :: x17 :: x18 :: x19 :: x20 :: x21 :: x22 :: x23 :: x24 :: x25 :: x26 :: x27 :: x28 :: x29 :: x30 :: x31 :: x32 :: x33 :: x34 :: x35 :: x36 :: x37 :: x38 :: x39 :: x40 :: x41 :: x42 :: x43 :: x44 :: x45 :: x46 :: x47 :: x48 :: x49 :: x50 :: x51 :: x52 :: x53 :: x54 :: x55 :: x56 :: x57 :: x58 :: r) 58 v = x0 :: x1 :: x2 :: x3 :: x4 :: x5 :: x6 :: x7 :: x8 :: x9 :: x10 :: x11 :: x12 :: x13 :: x14 :: x15 :: x16 :: x17 :: x18 :: x19 :: x20 :: x21 :: x22 :: x23 :: x24 :: x25 :: x26 :: x27 :: x28 :: x29 :: x30 :: x31 :: x32 :: x33 :: x34 :: x35 :: x36 :: x37 :: x38 :: x39 :: x40 :: x41 :: x42 :: x43 :: x44 :: x45 :: x46 :: x47 :: x48 :: x49 :: x50 :: x51 :: x52 :: x53 :: x54 :: x55 :: x56 :: x57 :: v :: r:=id rfl
theorem st59 {x0 x1 x2 x3 x4 x5 x6 x7 x8 x9 x10 x11 x12 x13 x14 x15 x16 x17 x18 x19 x20 x21 x22 x23 x24 x25 x26 x27 x28 x29 x30 x31 x32 x33 x34 x35 x36 x37 x38 x39 x40 x41 x42 x43 x44 x45 x46 x47 x48 x49 x50 x51 x52 x53 x54 x55 x56 x57 x58 x59 : α} {r : List α} : List.set (x0 :: x1 :: x2 :: x3 :: x4 :: x5 :: x6 :: x7 :: x8 :: x9 :: x10 :: x11 :: x12 :: x13 :: x14 :: x15 :: x16 :: x17 :: x18 :: x19 :: x20 :: x21 :: x22 :: x23 :: x24 :: x25 :: x26 :: x27 :: x28 :: x29 :: x30 :: x31 :: x32 :: x33 :: x34 :: x35 :: x36 :: x37 :: x38 :: x39 :: x40 :: x41 :: x42 :: x43 :: x44 :: x45 :: x46 :: x47 :: x48 :: x49 :: x50 :: x51 :: x52 :: x53 :: x54 :: x55 :: x56 :: x57 :: x58 :: x59 :: r) 59 v = x0 :: x1 :: x2 :: x3 :: x4 :: x5 :: x6 :: x7 :: x8 :: x9 :: x10 :: x11 :: x12 :: x13 :: x14 :: x15 :: x16 :: x17 :: x18 :: x19 :: x20 :: x21 :: x22 :: x23 :: x24 :: x25 :: x26 :: x27 :: x28 :: x29 :: x30 :: x31 :: x32 :: x33 :: x34 :: x35 :: x36 :: x37 :: x38 :: x39 :: x40 :: x41 :: x42 :: x43 :: x44 :: x45 :: x46 :: x47 :: x48 :: x49 :: x50 :: x51 :: x52 :: x53 :: x54 :: x55 :: x56 :: x57 :: x58 :: v :: r:=id rfl
theorem st60 {x0 x1 x2 x3 x4 x5 x6 x7 x8 x9 x10 x11 x12 x13 x14 x15 x16 x17 x18 x19 x20 x21 x22 x23 x24 x25 x26 x27 x28 x29 x30 x31 x32 x33 x34 x35 x36 x37 x38 x39 x40 x41 x42 x43 x44 x45 x46 x47 x48 x49 x50 x51 x52 x53 x54 x55 x56 x57 x58 x59 x60 : α} {r : List α} : List.set (x0 :: x1 :: x2 :: x3 :: x4 :: x5 :: x6 :: x7 :: x8 :: x9 :: x10 :: x11 :: x12 :: x13 :: x14 :: x15 :: x16 :: x17 :: x18 :: x19 :: x20 :: x21 :: x22 :: x23 :: x24 :: x25 :: x26 :: x27 :: x28 :: x29 :: x30 :: x31 :: x32 :: x33 :: x34 :: x35 :: x36 :: x37 :: x38 :: x39 :: x40 :: x41 :: x42 :: x43 :: x44 :: x45 :: x46 :: x47 :: x48 :: x49 :: x50 :: x51 :: x52 :: x53 :: x54 :: x55 :: x56 :: x57 :: x58 :: x59 :: x60 :: r) 60 v = x0 :: x1 :: x2 :: x3 :: x4 :: x5 :: x6 :: x7 :: x8 :: x9 :: x10 :: x11 :: x12 :: x13 :: x14 :: x15 :: x16 :: x17 :: x18 :: x19 :: x20 :: x21 :: x22 :: x23 :: x24 :: x25 :: x26 :: x27 :: x28 :: x29 :: x30 :: x31 :: x32 :: x33 :: x34 :: x35 :: x36 :: x37 :: x38 :: x39 :: x40 :: x41 :: x42 :: x43 :: x44 :: x45 :: x46 :: x47 :: x48 :: x49 :: x50 :: x51 :: x52 :: x53 :: x54 :: x55 :: x56 :: x57 :: x58 :: x59 :: v :: r:=id rfl
theorem st61 {x0 x1 x2 x3 x4 x5 x6 x7 x8 x9 x10 x11 x12 x13 x14 x15 x16 x17 x18 x19 x20 x21 x22 x23 x24 x25 x26 x27 x28 x29 x30 x31 x32 x33 x34 x35 x36 x37 x38 x39 x40 x41 x42 x43 x44 x45 x46 x47 x48 x49 x50 x51 x52 x53 x54 x55 x56 x57 x58 x59 x60 x61 : α} {r : List α} : List.set (x0 :: x1 :: x2 :: x3 :: x4 :: x5 :: x6 :: x7 :: x8 :: x9 :: x10 :: x11 :: x12 :: x13 :: x14 :: x15 :: x16 :: x17 :: x18 :: x19 :: x20 :: x21 :: x22 :: x23 :: x24 :: x25 :: x26 :: x27 :: x28 :: x29 :: x30 :: x31 :: x32 :: x33 :: x34 :: x35 :: x36 :: x37 :: x38 :: x39 :: x40 :: x41 :: x42 :: x43 :: x44 :: x45 :: x46 :: x47 :: x48 :: x49 :: x50 :: x51 :: x52 :: x53 :: x54 :: x55 :: x56 :: x57 :: x58 :: x59 :: x60 :: x61 :: r) 61 v = x0 :: x1 :: x2 :: x3 :: x4 :: x5 :: x6 :: x7 :: x8 :: x9 :: x10 :: x11 :: x12 :: x13 :: x14 :: x15 :: x16 :: x17 :: x18 :: x19 :: x20 :: x21 :: x22 :: x23 :: x24 :: x25 :: x26 :: x27 :: x28 :: x29 :: x30 :: x31 :: x32 :: x33 :: x34 :: x35 :: x36 :: x37 :: x38 :: x39 :: x40 :: x41 :: x42 :: x43 :: x44 :: x45 :: x46 :: x47 :: x48 :: x49 :: x50 :: x51 :: x52 :: x53 :: x54 :: x55 :: x56 :: x57 :: x58 :: x59 :: x60 :: v :: r:=id rfl
theorem st62 {x0 x1 x2 x3 x4 x5 x6 x7 x8 x9 x10 x11 x12 x13 x14 x15 x16 x17 x18 x19 x20 x21 x22 x23 x24 x25 x26 x27 x28 x29 x30 x31 x32 x33 x34 x35 x36 x37 x38 x39 x40 x41 x42 x43 x44 x45 x46 x47 x48 x49 x50 x51 x52 x53 x54 x55 x56 x57 x58 x59 x60 x61 x62 : α} {r : List α} : List.set (x0 :: x1 :: x2 :: x3 :: x4 :: x5 :: x6 :: x7 :: x8 :: x9 :: x10 :: x11 :: x12 :: x13 :: x14 :: x15 :: x16 :: x17 :: x18 :: x19 :: x20 :: x21 :: x22 :: x23 :: x24 :: x25 :: x26 :: x27 :: x28 :: x29 :: x30 :: x31 :: x32 :: x33 :: x34 :: x35 :: x36 :: x37 :: x38 :: x39 :: x40 :: x41 :: x42 :: x43 :: x44 :: x45 :: x46 :: x47 :: x48 :: x49 :: x50 :: x51 :: x52 :: x53 :: x54 :: x55 :: x56 :: x57 :: x58 :: x59 :: x60 :: x61 :: x62 :: r) 62 v = x0 :: x1 :: x2 :: x3 :: x4 :: x5 :: x6 :: x7 :: x8 :: x9 :: x10 :: x11 :: x12 :: x13 :: x14 :: x15 :: x16 :: x17 :: x18 :: x19 :: x20 :: x21 :: x22 :: x23 :: x24 :: x25 :: x26 :: x27 :: x28 :: x29 :: x30 :: x31 :: x32 :: x33 :: x34 :: x35 :: x36 :: x37 :: x38 :: x39 :: x40 :: x41 :: x42 :: x43 :: x44 :: x45 :: x46 :: x47 :: x48 :: x49 :: x50 :: x51 :: x52 :: x53 :: x54 :: x55 :: x56 :: x57 :: x58 :: x59 :: x60 :: x61 :: v :: r:=id rfl
theorem st63 {x0 x1 x2 x3 x4 x5 x6 x7 x8 x9 x10 x11 x12 x13 x14 x15 x16 x17 x18 x19 x20 x21 x22 x23 x24 x25 x26 x27 x28 x29 x30 x31 x32 x33 x34 x35 x36 x37 x38 x39 x40 x41 x42 x43 x44 x45 x46 x47 x48 x49 x50 x51 x52 x53 x54 x55 x56 x57 x58 x59 x60 x61 x62 x63 : α} {r : List α} : List.set (x0 :: x1 :: x2 :: x3 :: x4 :: x5 :: x6 :: x7 :: x8 :: x9 :: x10 :: x11 :: x12 :: x13 :: x14 :: x15 :: x16 :: x17 :: x18 :: x19 :: x20 :: x21 :: x22 :: x23 :: x24 :: x25 :: x26 :: x27 :: x28 :: x29 :: x30 :: x31 :: x32 :: x33 :: x34 :: x35 :: x36 :: x37 :: x38 :: x39 :: x40 :: x41 :: x42 :: x43 :: x44 :: x45 :: x46 :: x47 :: x48 :: x49 :: x50 :: x51 :: x52 :: x53 :: x54 :: x55 :: x56 :: x57 :: x58 :: x59 :: x60 :: x61 :: x62 :: x63 :: r) 63 v = x0 :: x1 :: x2 :: x3 :: x4 :: x5 :: x6 :: x7 :: x8 :: x9 :: x10 :: x11 :: x12 :: x13 :: x14 :: x15 :: x16 :: x17 :: x18 :: x19 :: x20 :: x21 :: x22 :: x23 :: x24 :: x25 :: x26 :: x27 :: x28 :: x29 :: x30 :: x31 :: x32 :: x33 :: x34 :: x35 :: x36 :: x37 :: x38 :: x39 :: x40 :: x41 :: x42 :: x43 :: x44 :: x45 :: x46 :: x47 :: x48 :: x49 :: x50 :: x51 :: x52 :: x53 :: x54 :: x55 :: x56 :: x57 :: x58 :: x59 :: x60 :: x61 :: x62 :: v :: r:=id rfl
theorem gx0 {x0 : α} {r : List α} : (x0 :: r)[0]? = some x0:=id rfl
theorem gx1 {x0 x1 : α} {r : List α} : (x0 :: x1 :: r)[1]? = some x1:=id rfl
theorem gx2 {x0 x1 x2 : α} {r : List α} : (x0 :: x1 :: x2 :: r)[2]? = some x2:=id rfl
theorem gx3 {x0 x1 x2 x3 : α} {r : List α} : (x0 :: x1 :: x2 :: x3 :: r)[3]? = some x3:=id rfl
theorem gx4 {x0 x1 x2 x3 x4 : α} {r : List α} : (x0 :: x1 :: x2 :: x3 :: x4 :: r)[4]? = some x4:=id rfl
theorem gx5 {x0 x1 x2 x3 x4 x5 : α} {r : List α} : (x0 :: x1 :: x2 :: x3 :: x4 :: x5 :: r)[5]? = some x5:=id rfl
theorem rg0 : List.range 0 = []:=id rfl
theorem rp1 : List.replicate 1 v = [v]:=id rfl
theorem rp2 : List.replicate 2 v = [v,v]:=id rfl
theorem rp3 : List.replicate 3 v = [v,v,v]:=id rfl
theorem rp6 : List.replicate 6 v = [v,v,v,v,v,v]:=id rfl
theorem rp10 : List.replicate 10 v = [v,v,v,v,v,v,v,v,v,v]:=id rfl
theorem rp12 : List.replicate 12 v = [v,v,v,v,v,v,v,v,v,v,v,v]:=id rfl
end
end Go.Vm

/- Evaluating: one step of the machine at a time. -/
namespace Go.Vm
open Go
def thenC (r : Option (AExit × S)) (k : S → Option (AExit × S)) : Option (AExit × S) :=
  match r with
  | some (.normal,s) => k s
  | r => r
def blkC (id : Nat) (r : Option (AExit × S)) : Option (AExit × S) :=
  match r with
  | some (.exit i,s) => some (if i = id then .normal else .exit i,s)
  | r => r
def regC (r : Option S) : Option (AExit × S):=match r with | some s => some (.normal,s) | none => none
def envC (r : Option (List AV × S)) : Option S:=match r with | some (_,s) => some s | none => none
def outC (cx : Cx) (out : List Nat) (r : Option (AExit × S)) : Option (AExit × S):=match r with | some (x,s') => some (x,head cx out s') | none => none
section
variable {lo : Lower} {cx : Cx} {s : S} {k : S → Option (AExit × S)} {a b : IR}
theorem thenC_normal : thenC (some (.normal,s)) k = k s:=id rfl
theorem thenC_ret : thenC (some (.ret,s)) k = some (.ret,s):=id rfl
theorem thenC_exit {i : Nat} : thenC (some (.exit i,s)) k = some (.exit i,s):=id rfl
theorem blkC_normal {id : Nat} : blkC id (some (.normal,s)) = some (.normal,s):=_root_.id rfl
theorem blkC_ret {id : Nat} : blkC id (some (.ret,s)) = some (.ret,s):=_root_.id rfl
theorem blkC_here {i : Nat} : blkC i (some (.exit i,s)) = some (.normal,s):=by simp [blkC]
theorem blkC_on {id i : Nat} (h : (i == id) = false) : blkC id (some (.exit i,s)) = some (.exit i,s):=by
  have : i ≠ id:=by simpa using h
  simp [blkC,this]
theorem regC_some : regC (some s) = some (.normal,s):=id rfl
theorem envC_some {e : List AV} : envC (some (e,s)) = some s:=id rfl
theorem outC_some {out : List Nat} {x : AExit} : outC cx out (some (x,s)) = some (x,head cx out s):=id rfl
theorem ac_skip : aCode lo cx .skip s = some (.normal,s):=id rfl
theorem ac_ret : aCode lo cx .ret s = some (.ret,s):=id rfl
theorem ac_exit {i : Nat} : aCode lo cx (.exit i) s = some (.exit i,s):=id rfl
theorem ac_seq : aCode lo cx (.seq a b) s = thenC (aCode lo cx a s) (aCode lo cx b):=id rfl
theorem ac_region {ops : List ROp} : aCode lo cx (.region ops none) s = regC (envC (aOps lo ops [] s)):=id rfl
theorem ac_block {id : Nat} : aCode lo cx (.block id b) s = blkC id (aCode lo cx b s):=_root_.id rfl
theorem ac_loop {kp out : List Nat} : aCode lo cx (.loop kp out b) s = outC cx out (loopC (aCode lo cx b) (head cx kp) s):=id rfl
theorem ac_true {i : Nat} {vars : List AV} {st : List AO} {ext : Option Ext} (h : vars.getD i .junk = .imm (.bool true)) : aCode lo cx (.cond (.var i) a b) ⟨vars,st,ext⟩ = aCode lo cx a ⟨vars,st,ext⟩:=by simp only [aCode,opnd,h]
theorem ac_false {i : Nat} {vars : List AV} {st : List AO} {ext : Option Ext} (h : vars.getD i .junk = .imm (.bool false)) : aCode lo cx (.cond (.var i) a b) ⟨vars,st,ext⟩ = aCode lo cx b ⟨vars,st,ext⟩:=by simp only [aCode,opnd,h]
theorem ac_scope {n : Nat} : aCode lo { nb:=n,rd:=false } (.scope b) s = aCode lo { nb:=n,rd:=false } b s:=by simp [aCode]
def nxC (lo : Lower) (rest : List ROp) (w : Option Nat) (env : List AV) (r : Option (AV × S)) : Option (List AV × S) :=
  match r with
  | some (v,s) => aOps lo rest (env ++ [v]) { s with vars:=setW s.vars w v }
  | none => none
variable {env vars : List AV} {st news : List AO} {ext : Option Ext} {rest : List ROp} {w : Option Nat} {op : IOp} {nid : Nat} {v : AV}
theorem setW_none : setW vars none v = vars:=id rfl
theorem setW_some {i : Nat} : setW vars (some i) v = vars.set i v:=id rfl
theorem ao_nil : aOps lo [] env s = some (env,s):=id rfl
theorem nx_some : nxC lo rest w env (some (v,⟨vars,st,ext⟩)) = aOps lo rest (env ++ [v]) ⟨setW vars w v,st,ext⟩:=id rfl
theorem ao_op : aOps lo (⟨w,none,op⟩ :: rest) env ⟨vars,st,ext⟩ = nxC lo rest w env (aOp lo vars env ⟨vars,st,ext⟩ op):=by
  simp only [aOps,wantG,nxC]
  cases aOp lo vars env ⟨vars,st,ext⟩ op <;> rfl
theorem ao_do {j : Nat} {b : Bool} (h : env.getD j .junk = .imm (.bool b)) : aOps lo (⟨w,some (j,b),op⟩ :: rest) env ⟨vars,st,ext⟩ = nxC lo rest w env (aOp lo vars env ⟨vars,st,ext⟩ op):=by
  simp only [aOps,wantG,h,nxC]
  cases b <;> simp only [] <;> cases aOp lo vars env ⟨vars,st,ext⟩ op <;> rfl
theorem ao_tf {j : Nat} (h : env.getD j .junk = .imm (.bool true)) : aOps lo (⟨w,some (j,false),op⟩ :: rest) env ⟨vars,st,ext⟩ = aOps lo rest (env ++ [.imm (.tup [])]) ⟨setW vars w (.imm (.tup [])),st,ext⟩:=by
  simp only [aOps,wantG,h]
theorem ao_ft {j : Nat} (h : env.getD j .junk = .imm (.bool false)) : aOps lo (⟨w,some (j,true),op⟩ :: rest) env ⟨vars,st,ext⟩ = aOps lo rest (env ++ [.imm (.tup [])]) ⟨setW vars w (.imm (.tup [])),st,ext⟩:=by
  simp only [aOps,wantG,h]
def qC (s : S) (r : Option (AV × List AO)) : Option (AV × S):=match r with | some (v,news) => some (v,{ s with st:=s.st ++ news }) | none => none
theorem qC_new : qC ⟨vars,st,ext⟩ (some (v,news)) = some (v,⟨vars,st ++ news,ext⟩):=id rfl
def vlC (r : Option AV) : Option (AV × List AO):=match r with | some v => some (v,[]) | none => none
theorem vl_some : vlC (some v) = some (v,[]):=id rfl
theorem vl_map {r : Option AV} : r.map (·,([] : List AO)) = vlC r:=by cases r <;> rfl
theorem op_mv {x : Opnd} : aOp lo vars env ⟨vars,st,ext⟩ (.mv x) = some (opnd vars env x,⟨vars,st,ext⟩):=by simp [aOp,aQ]
theorem op_pick {c a b : Opnd} : aOp lo vars env ⟨vars,st,ext⟩ (.pick c a b) = qC ⟨vars,st,ext⟩ (aQ lo vars env st st.length (.pick c a b)):=id rfl
theorem op_alloc {z : List D} : aOp lo vars env ⟨vars,st,ext⟩ (.alloc z) = some (.ptr st.length 0,⟨vars,st ++ [.box (z.map .imm)],ext⟩):=id rfl
theorem op_box {x : Opnd} : aOp lo vars env ⟨vars,st,ext⟩ (.box x) = qC ⟨vars,st,ext⟩ (aQ lo vars env st st.length (.box x)):=id rfl
theorem op_build {z : List D} {ps : List (Nat × Nat × Opnd)} : aOp lo vars env ⟨vars,st,ext⟩ (.build z ps) = qC ⟨vars,st,ext⟩ (aQ lo vars env st st.length (.build z ps)):=id rfl
theorem op_load {g : Bool} {n : Nat} {x : Opnd} : aOp lo vars env ⟨vars,st,ext⟩ (.load g n x) = qC ⟨vars,st,ext⟩ (aQ lo vars env st st.length (.load g n x)):=id rfl
theorem op_nilck {x : Opnd} : aOp lo vars env ⟨vars,st,ext⟩ (.nilck x) = qC ⟨vars,st,ext⟩ (aQ lo vars env st st.length (.nilck x)):=id rfl
theorem op_bin {o : BinOp} {x y : Opnd} : aOp lo vars env ⟨vars,st,ext⟩ (.bin o x y) = qC ⟨vars,st,ext⟩ (aQ lo vars env st st.length (.bin o x y)):=id rfl
theorem op_eqs {g : Bool} {t : ETy} {x y : Opnd} : aOp lo vars env ⟨vars,st,ext⟩ (.eqs g t x y) = qC ⟨vars,st,ext⟩ (aQ lo vars env st st.length (.eqs g t x y)):=id rfl
theorem op_un {o : UnOp} {x : Opnd} : aOp lo vars env ⟨vars,st,ext⟩ (.un o x) = qC ⟨vars,st,ext⟩ (aQ lo vars env st st.length (.un o x)):=id rfl
theorem op_conv {k : IntKind} {x : Opnd} : aOp lo vars env ⟨vars,st,ext⟩ (.conv k x) = qC ⟨vars,st,ext⟩ (aQ lo vars env st st.length (.conv k x)):=id rfl
theorem op_mkfn {f : FuncId} {x y : List Opnd} : aOp lo vars env ⟨vars,st,ext⟩ (.mkfn f x y) = qC ⟨vars,st,ext⟩ (aQ lo vars env st st.length (.mkfn f x y)):=id rfl
theorem op_mkmap : aOp lo vars env ⟨vars,st,ext⟩ .mkmap = qC ⟨vars,st,ext⟩ (aQ lo vars env st st.length .mkmap):=id rfl
theorem op_lookup {z : D} {x y : Opnd} : aOp lo vars env ⟨vars,st,ext⟩ (.lookup z x y) = qC ⟨vars,st,ext⟩ (aQ lo vars env st st.length (.lookup z x y)):=id rfl
theorem op_mkslice {sz bytes : Nat} {z : List D} {x y : Opnd} : aOp lo vars env ⟨vars,st,ext⟩ (.mkslice sz bytes z x y) = qC ⟨vars,st,ext⟩ (aQ lo vars env st st.length (.mkslice sz bytes z x y)):=id rfl
theorem op_slice {arr : Option Nat} {sz : Nat} {x : Opnd} {l h m : Option Opnd} : aOp lo vars env ⟨vars,st,ext⟩ (.slice arr sz x l h m) = qC ⟨vars,st,ext⟩ (aQ lo vars env st st.length (.slice arr sz x l h m)):=id rfl
theorem op_faddr {o : Nat} {x : Opnd} : aOp lo vars env ⟨vars,st,ext⟩ (.faddr o x) = qC ⟨vars,st,ext⟩ (aQ lo vars env st st.length (.faddr o x)):=id rfl
theorem op_iaddr {arr : Option Nat} {sz : Nat} {x i : Opnd} : aOp lo vars env ⟨vars,st,ext⟩ (.iaddr arr sz x i) = qC ⟨vars,st,ext⟩ (aQ lo vars env st st.length (.iaddr arr sz x i)):=id rfl
theorem op_extract {x : Opnd} {i : Nat} : aOp lo vars env ⟨vars,st,ext⟩ (.extract x i) = qC ⟨vars,st,ext⟩ (aQ lo vars env st st.length (.extract x i)):=id rfl
theorem op_len {k : LK} {x : Opnd} : aOp lo vars env ⟨vars,st,ext⟩ (.len k x) = qC ⟨vars,st,ext⟩ (aQ lo vars env st st.length (.len k x)):=id rfl
theorem op_mnmx {g : Bool} {x y : Opnd} : aOp lo vars env ⟨vars,st,ext⟩ (.mnmx g x y) = qC ⟨vars,st,ext⟩ (aQ lo vars env st st.length (.mnmx g x y)):=id rfl
theorem q_mv {x : Opnd} : aQ lo vars env st nid (.mv x) = some (opnd vars env x,[]):=id rfl
def pickC (c x y : AV) : Option (AV × List AO):=match c with | .imm (.bool t) => some ((match t with | true => x | false => y),[]) | _ => none
theorem pick_t {x y : AV} : pickC (.imm (.bool true)) x y = some (x,[]):=id rfl
theorem pick_f {x y : AV} : pickC (.imm (.bool false)) x y = some (y,[]):=id rfl
theorem q_pick {c x y : Opnd} : aQ lo vars env st nid (.pick c x y) = pickC (opnd vars env c) (opnd vars env x) (opnd vars env y):=id rfl
theorem q_alloc {z : List D} : aQ lo vars env st nid (.alloc z) = some (.ptr nid 0,[.box (z.map .imm)]):=id rfl
def boxC (nid : Nat) (cs : List AV) (ok : Bool) : Option (AV × List AO):=match ok with | true => some (.ptr nid 0,[.box cs]) | false => none
theorem box_t {cs : List AV} : boxC nid cs true = some (.ptr nid 0,[.box cs]):=id rfl
theorem q_box {x : Opnd} : aQ lo vars env st nid (.box x) = boxC nid (cellsOf (opnd vars env x)) ((cellsOf (opnd vars env x)).all single):=by
  simp only [aQ,boxC]
  cases (cellsOf (opnd vars env x)).all single <;> rfl
def bldC (r : Option (List AV)) : Option (AV × List AO):=match r with | some cs => some (mkAgg cs,[]) | none => none
theorem bld_some {cs : List AV} : bldC (some cs) = some (mkAgg cs,[]):=id rfl
theorem q_build {z : List D} {ps : List (Nat × Nat × Opnd)} : aQ lo vars env st nid (.build z ps) = bldC (fillA (z.map .imm) (ps.map fun p => (p.1,p.2.1,opnd vars env p.2.2))):=id rfl
theorem q_load {g : Bool} {n : Nat} {x : Opnd} : aQ lo vars env st nid (.load g n x) = vlC (aLoad st g n (opnd vars env x)):=vl_map
def nckC (v : AV) : Option (AV × List AO):=match v with | .ptr id off => some (.ptr id off,[]) | .imm (.ptr cs) => some (.imm (.ptr cs),[]) | _ => none
theorem nck_ptr {id off : Nat} : nckC (.ptr id off) = some (.ptr id off,[]):=_root_.id rfl
theorem q_nilck {x : Opnd} : aQ lo vars env st nid (.nilck x) = nckC (opnd vars env x):=id rfl
theorem q_bin {o : BinOp} {x y : Opnd} : aQ lo vars env st nid (.bin o x y) = vlC (aBin o (opnd vars env x) (opnd vars env y)):=vl_map
def eqC (g : Bool) (r : Option Bool) : Option (AV × List AO):=match r with | some b => some (.imm (.bool (match g with | true => !b | false => b)),[]) | none => none
theorem eq_f {b : Bool} : eqC false (some b) = some (.imm (.bool b),[]):=id rfl
theorem eq_t {b : Bool} : eqC true (some b) = some (.imm (.bool (!b)),[]):=id rfl
theorem q_eqs {g : Bool} {t : ETy} {x y : Opnd} : aQ lo vars env st nid (.eqs g t x y) = eqC g (aEq t (opnd vars env x) (opnd vars env y)):=by
  simp only [aQ,eqC]
  cases aEq t (opnd vars env x) (opnd vars env y) <;> cases g <;> rfl
theorem q_un {o : UnOp} {x : Opnd} : aQ lo vars env st nid (.un o x) = vlC (aUn o (opnd vars env x)):=vl_map
def cvC (k : IntKind) (v : AV) : Option (AV × List AO):=match v with | .imm (.int _ n) => some (.imm (.int k (wrp k n)),[]) | _ => none
theorem cv_int {k k' : IntKind} {n : Int} : cvC k (.imm (.int k' n)) = some (.imm (.int k (wrp k n)),[]):=id rfl
theorem q_conv {k : IntKind} {x : Opnd} : aQ lo vars env st nid (.conv k x) = cvC k (opnd vars env x):=id rfl
theorem q_mkfn {f : FuncId} {x y : List Opnd} : aQ lo vars env st nid (.mkfn f x y) = some (mkFn f (opnds vars env x) (opnds vars env y),[]):=id rfl
theorem q_mkmap : aQ lo vars env st nid .mkmap = some (.map nid,[.imap []]):=id rfl
def lkC (st : List AO) (z : D) (m : AV) (k : Option Int) : Option (AV × List AO):=match m,k with
    | .map id,some k => match st[id]? with | some (.imap es) => some (.imm ((lookI es k).getD z),[]) | _ => none
    | _,_ => none
theorem q_lookup {z : D} {m k : Opnd} : aQ lo vars env st nid (.lookup z m k) = lkC st z (opnd vars env m) (keyI (opnd vars env k)):=id rfl
def mkC (nid sz bytes : Nat) (z : List D) (l c : Option Int) : Option (AV × List AO):=match l,c with
    | some l,some c => if 0 ≤ l ∧ l ≤ c ∧ bytes * c ≤ room ∧ c ≤ room then some (.ref nid sz 0 l.toNat,[.arr sz (List.replicate l.toNat z)]) else none
    | _,_ => none
theorem mk_ok {sz bytes : Nat} {z : List D} {l : Int} (h0 : 0 ≤ l) (h1 : bytes * l ≤ 70368744177664) (h2 : l ≤ 70368744177664) : mkC nid sz bytes z (some l) (some l) = some (.ref nid sz 0 l.toNat,[.arr sz (List.replicate l.toNat z)]):=by
  simp only [mkC,room]
  exact if_pos ⟨h0,Int.le_refl _,h1,h2⟩
theorem mk_cap {sz bytes : Nat} {z : List D} {c : Int} (h0 : 0 ≤ c) (h1 : bytes * c ≤ 70368744177664) (h2 : c ≤ 70368744177664) : mkC nid sz bytes z (some 0) (some c) = some (.ref nid sz 0 0,[.arr sz []]):=by
  simp only [mkC,room]
  exact if_pos ⟨Int.le_refl _,h0,h1,h2⟩
theorem q_mkslice {sz bytes : Nat} {z : List D} {l c : Opnd} : aQ lo vars env st nid (.mkslice sz bytes z l c) = mkC nid sz bytes z (getI (opnd vars env l)) (getI (opnd vars env c)):=id rfl
def bdC (v : Option AV) : Option (Option Nat):=match v with
  | none => some none
  | some v => match getI v with | some n => if 0 ≤ n then some (some n.toNat) else none | none => none
theorem bd_none : bdC none = some none:=id rfl
theorem bd_int {k : IntKind} {n : Int} (h : 0 ≤ n) : bdC (some (.imm (.int k n))) = some (some n.toNat):=by simp [bdC,getI,h]
def slC (st : List AO) (arr : Option Nat) (sz : Nat) (v : AV) (lo hi mx : Option (Option Nat)) : Option AV:=match lo,hi,mx with
    | some l,some h,some m => aSlice st arr sz v l h m
    | _,_,_ => none
theorem sl_some {arr : Option Nat} {sz : Nat} {l h m : Option Nat} : slC st arr sz v (some l) (some h) (some m) = aSlice st arr sz v l h m:=id rfl
theorem q_slice {arr : Option Nat} {sz : Nat} {x : Opnd} {l h m : Option Opnd} : aQ lo vars env st nid (.slice arr sz x l h m) = vlC (slC st arr sz (opnd vars env x) (bdC (l.map (opnd vars env))) (bdC (h.map (opnd vars env))) (bdC (m.map (opnd vars env)))):=by
  have e : aQ lo vars env st nid (.slice arr sz x l h m) = (match bdC (l.map (opnd vars env)),bdC (h.map (opnd vars env)),bdC (m.map (opnd vars env)) with
      | some l,some h,some m => (aSlice st arr sz (opnd vars env x) l h m).map (·,[])
      | _,_,_ => none):=by
    cases l <;> cases h <;> cases m <;> rfl
  rw [e]
  simp only [slC]
  cases bdC (l.map (opnd vars env)) <;> cases bdC (h.map (opnd vars env)) <;> cases bdC (m.map (opnd vars env)) <;> first | rfl | exact vl_map
def faC (o : Nat) (v : AV) : Option (AV × List AO):=match v with | .ptr id a => some (.ptr id (a + o),[]) | .imm (.ptr cs) => some (.imm (.ptr (cs.drop o)),[]) | _ => none
theorem fa_ptr {o id a : Nat} : faC o (.ptr id a) = some (.ptr id (a + o),[]):=_root_.id rfl
theorem fa_imm {o : Nat} {cs : List D} : faC o (.imm (.ptr cs)) = some (.imm (.ptr (cs.drop o)),[]):=id rfl
theorem q_faddr {o : Nat} {x : Opnd} : aQ lo vars env st nid (.faddr o x) = faC o (opnd vars env x):=id rfl
def iaC (arr : Option Nat) (sz : Nat) (v : AV) (i : Option Int) : Option AV:=match i with | some i => aIaddr arr sz v i | none => none
theorem ia_some {arr : Option Nat} {sz : Nat} {i : Int} : iaC arr sz v (some i) = aIaddr arr sz v i:=id rfl
theorem q_iaddr {arr : Option Nat} {sz : Nat} {x i : Opnd} : aQ lo vars env st nid (.iaddr arr sz x i) = vlC (iaC arr sz (opnd vars env x) (getI (opnd vars env i))):=by
  simp only [aQ,iaC]
  cases getI (opnd vars env i) <;> first | rfl | exact vl_map
def exC (v : AV) (i : Nat) : Option AV:=match v with
    | .imm (.tup ds) => (ds[i]?).map .imm
    | .tup vs => vs[i]?
    | _ => none
theorem ex_imm {ds : List D} {i : Nat} : exC (.imm (.tup ds)) i = (ds[i]?).map .imm:=id rfl
theorem q_extract {x : Opnd} {i : Nat} : aQ lo vars env st nid (.extract x i) = vlC (exC (opnd vars env x) i):=by
  simp only [aQ,exC]
  cases opnd vars env x with
  | imm d =>
    cases d with
    | tup ds => cases h : ds[i]? <;> simp [vlC,h]
    | _ => rfl
  | tup vs => cases h : vs[i]? <;> simp [vlC,h]
  | _ => rfl
def lnC (r : Option Nat) : Option (AV × List AO):=match r with | some n => some (.imm (.int .i64 (n : Int)),[]) | none => none
theorem ln_some {n : Nat} : lnC (some n) = some (.imm (.int .i64 (n : Int)),[]):=id rfl
theorem q_len {k : LK} {x : Opnd} : aQ lo vars env st nid (.len k x) = lnC (aLen k (opnd vars env x) st):=id rfl
def mxC (g : Bool) (x y : AV) : Option (AV × List AO):=match x,y with
    | .imm (.int k a),.imm (.int _ b) => some (.imm (.int k (if g then (if b < a then b else a) else (if a < b then b else a))),[])
    | _,_ => none
theorem mn_int {k k' : IntKind} {a b : Int} : mxC true (.imm (.int k a)) (.imm (.int k' b)) = some (.imm (.int k (min a b)),[]):=by
  simp only [mxC,if_true,Option.some.injEq,Prod.mk.injEq,AV.imm.injEq,D.int.injEq,and_true,true_and]
  omega
theorem mx_int {k k' : IntKind} {a b : Int} : mxC false (.imm (.int k a)) (.imm (.int k' b)) = some (.imm (.int k (max a b)),[]):=by
  simp only [mxC,Bool.false_eq_true,if_false,Option.some.injEq,Prod.mk.injEq,AV.imm.injEq,D.int.injEq,and_true,true_and]
  omega
theorem q_mnmx {g : Bool} {x y : Opnd} : aQ lo vars env st nid (.mnmx g x y) = mxC g (opnd vars env x) (opnd vars env y):=id rfl
theorem bin_add {k : IntKind} {a b : Int} : aBin .add (.imm (.int k a)) (.imm (.int k b)) = some (.imm (.int k (wrp k (a + b)))):=by simp [aBin,binI]
theorem bin_sub {k : IntKind} {a b : Int} : aBin .sub (.imm (.int k a)) (.imm (.int k b)) = some (.imm (.int k (wrp k (a - b)))):=by simp [aBin,binI]
theorem bin_mul {k : IntKind} {a b : Int} : aBin .mul (.imm (.int k a)) (.imm (.int k b)) = some (.imm (.int k (wrp k (a * b)))):=by simp [aBin,binI]
theorem bin_rem {k : IntKind} {a b : Int} (h : b ≠ 0) : aBin .rem (.imm (.int k a)) (.imm (.int k b)) = some (.imm (.int k (a.tmod b))):=by simp [aBin,binI,h]
theorem bin_eql {k : IntKind} {a b : Int} : aBin .eql (.imm (.int k a)) (.imm (.int k b)) = some (.imm (.bool (decide (a = b)))):=by simp [aBin,binI]; rfl
theorem bin_neq {k : IntKind} {a b : Int} : aBin .neq (.imm (.int k a)) (.imm (.int k b)) = some (.imm (.bool (decide (a ≠ b)))):=by simp [aBin,binI,bne]; rfl
theorem bin_lss {k : IntKind} {a b : Int} : aBin .lss (.imm (.int k a)) (.imm (.int k b)) = some (.imm (.bool (decide (a < b)))):=by simp [aBin,binI]
theorem bin_leq {k : IntKind} {a b : Int} : aBin .leq (.imm (.int k a)) (.imm (.int k b)) = some (.imm (.bool (decide (a ≤ b)))):=by simp [aBin,binI]
theorem bin_gtr {k : IntKind} {a b : Int} : aBin .gtr (.imm (.int k a)) (.imm (.int k b)) = some (.imm (.bool (decide (b < a)))):=by simp [aBin,binI]
theorem bin_geq {k : IntKind} {a b : Int} : aBin .geq (.imm (.int k a)) (.imm (.int k b)) = some (.imm (.bool (decide (b ≤ a)))):=by simp [aBin,binI]
theorem bin_shr {k k' : IntKind} {a b : Int} (h : ¬ b < 0) : aBin .shr (.imm (.int k a)) (.imm (.int k' b)) = some (.imm (.int k (a.fdiv (2 ^ (min b.toNat k.bits))))):=by simp [aBin,shiftI,h]
theorem un_not {b : Bool} : aUn .not (.imm (.bool b)) = some (.imm (.bool (!b))):=id rfl
theorem wrp_ok {n : Int} (h : -9223372036854775808 ≤ n ∧ n ≤ 9223372036854775807) : wrp .i64 n = n:=by simp [wrp,h]
theorem getI_int {k : IntKind} {n : Int} : getI (.imm (.int k n)) = some n:=id rfl
theorem keyI_int {n : Int} : keyI (.imm (.int .i64 n)) = some n:=id rfl
end
end Go.Vm

/- Evaluating: memory,calls,what is left behind. -/
namespace Go.Vm
open Go
def slD (b : Bool) (sz : Nat) (es : List (List D)) : D:=match b,es with | true,[] => .nil | _,es => .sl sz es
section
variable {lo : Lower} {cx : Cx} {s : S} {env vars vs : List AV} {st news : List AO} {ext : Option Ext} {nid id sz n m off l h i : Nat} {v : AV} {b : Bool} {es old : List (List D)} {e ds : List D} {d : D} {cs : List AV} {r : List AV}
theorem slD_f : slD false sz es = .sl sz es:=_root_.id rfl
theorem len_sl : aLen .sl (.imm (.sl sz es)) st = some es.length:=_root_.id rfl
theorem len_slD : aLen .sl (.imm (slD b sz es)) st = some es.length:=by cases b <;> cases es <;> rfl
theorem len_ref {lw : Nat} : aLen .sl (.ref id sz lw n) st = some n:=_root_.id rfl
def iaP (o : Option (List D)) : Option AV:=match o with | some e => some (.imm (.ptr e)) | none => none
theorem iaP_some : iaP (some e) = some (.imm (.ptr e)):=_root_.id rfl
theorem ia_sl {i : Int} (h : 0 ≤ i) : aIaddr none sz (.imm (.sl sz es)) i = iaP es[i.toNat]?:=by
  simp only [aIaddr,h,and_self,if_true]
  cases es[i.toNat]? <;> rfl
theorem ia_slN {i : Nat} : aIaddr none sz (.imm (.sl sz es)) (i : Int) = iaP es[i]?:=ia_sl (by omega)
theorem ia_slD {i : Int} (h : 0 ≤ i) : aIaddr none sz (.imm (slD b sz es)) i = iaP es[i.toNat]?:=by
  cases b
  · exact ia_sl h
  · cases es with
    | nil => rfl
    | cons x es => exact ia_sl h
theorem ia_slDN {i : Nat} : aIaddr none sz (.imm (slD b sz es)) (i : Int) = iaP es[i]?:=ia_slD (by omega)
theorem ia_ref {i : Int} {lw : Nat} (h : 0 ≤ i) (h2 : i < n) : aIaddr none sz (.ref id sz lw n) i = some (.ptr id ((lw + i.toNat) * sz)):=by simp [aIaddr,h,h2]
theorem ia_arr {i : Int} (h : 0 ≤ i) (h2 : i < n) : aIaddr (some n) sz (.ptr id off) i = some (.ptr id (off + i.toNat * sz)):=by simp [aIaddr,h,h2]
theorem ia_arrI {i : Int} (h : 0 ≤ i) (h2 : i < n) : aIaddr (some n) sz (.imm (.ptr ds)) i = some (.imm (.ptr (ds.drop (i.toNat * sz)))):=by simp [aIaddr,h,h2]
theorem ld_immT (h : n ≤ ds.length) : aLoad st true n (.imm (.ptr ds)) = some (.imm (.agg (ds.take n))):=by simp [aLoad,h]
theorem ld_immF : aLoad st false 1 (.imm (.ptr (d :: ds))) = some (.imm d):=by simp [aLoad]
def ldC (g : Bool) (n off : Nat) (o : Option AO) : Option AV:=match o with
  | some (.box cs) => if off + n ≤ cs.length then (if g then some (mkAgg ((cs.drop off).take n)) else (if n = 1 then cs[off]? else none)) else none
  | some (.fbox ds) => if off + n ≤ (ds.map AV.imm).length then (if g then some (mkAgg (((ds.map .imm).drop off).take n)) else (if n = 1 then (ds.map AV.imm)[off]? else none)) else none
  | some (.arr sz es) => match es[off / sz]? with
    | some e => if off % sz + n ≤ e.length then (if g then some (.imm (.agg ((e.drop (off % sz)).take n))) else (if n = 1 then (e[off % sz]?).map .imm else none)) else none
    | none => none
  | some (.farr sz es) => match es[off / sz]? with
    | some e => if off % sz + n ≤ e.length then (if g then some (.imm (.agg ((e.drop (off % sz)).take n))) else (if n = 1 then (e[off % sz]?).map .imm else none)) else none
    | none => none
  | _ => none
theorem ld_ptr {g : Bool} : aLoad st g n (.ptr id off) = ldC g n off st[id]?:=by
  simp only [aLoad,rdBox,rdArr,ldC]
  cases st[id]? with
  | none => rfl
  | some o => cases o <;> rfl
theorem dsOf_map' : ∀ l : List D,dsOf (l.map .imm) = some l
  | [] => rfl
  | x :: l => by simp [dsOf,dsOf_map' l]
theorem ldC_boxF : ldC false 1 off (some (.box cs)) = cs[off]?:=by
  by_cases h : off + 1 ≤ cs.length
  · simp [ldC,h]
  · simp only [ldC,h,if_false]; rw [List.getElem?_eq_none (by omega)]
theorem ldC_boxT (h : off + n ≤ cs.length) : ldC true n off (some (.box cs)) = some (mkAgg ((cs.drop off).take n)):=by simp [ldC,h]
def elC (j : Nat) (o : Option (List D)) : Option AV:=match o with | some e => (e[j]?).map .imm | none => none
theorem el_some {j : Nat} : elC j (some e) = (e[j]?).map .imm:=_root_.id rfl
def emC (j n : Nat) (o : Option (List D)) : Option AV:=match o with | some e => if j + n ≤ e.length then some (.imm (.agg ((e.drop j).take n))) else none | none => none
theorem em_some {j : Nat} (h : j + n ≤ e.length) : emC j n (some e) = some (.imm (.agg ((e.drop j).take n))):=by simp [emC,h]
theorem ldC_arrF : ldC false 1 off (some (.arr sz es)) = elC (off % sz) es[off / sz]?:=by
  simp only [ldC,elC]
  cases es[off / sz]? with
  | none => rfl
  | some e =>
    by_cases h : off % sz + 1 ≤ e.length
    · simp [h]
    · simp only [h,if_false]; rw [List.getElem?_eq_none (by omega)]; rfl
theorem ldC_arrT : ldC true n off (some (.arr sz es)) = emC (off % sz) n es[off / sz]?:=by
  simp only [ldC,emC]
  cases es[off / sz]? <;> rfl
def maC (vs : List AV) (r : Option (List D)) : AV:=match r with | some ds => .imm (.agg ds) | none => .agg vs
theorem mkAgg_eq : mkAgg vs = maC vs (dsOf vs):=_root_.id rfl
theorem ma_some : maC vs (some ds) = .imm (.agg ds):=_root_.id rfl
theorem ma_none : maC vs none = .agg vs:=_root_.id rfl
def mtC (vs : List AV) (r : Option (List D)) : AV:=match r with | some ds => .imm (.tup ds) | none => .tup vs
theorem mkTup_eq : mkTup vs = mtC vs (dsOf vs):=_root_.id rfl
theorem mt_some : mtC vs (some ds) = .imm (.tup ds):=_root_.id rfl
theorem mt_none : mtC vs none = .tup vs:=_root_.id rfl
def mfC (f : FuncId) (x y : List AV) (a b : Option (List D)) : AV:=match a,b with | some a,some b => .imm (.fn f a b) | _,_ => .clo f x y
theorem mkFn_eq {f : FuncId} {x y : List AV} : mkFn f x y = mfC f x y (dsOf x) (dsOf y):=_root_.id rfl
theorem mf_some {f : FuncId} {x y : List AV} {p q : List D} : mfC f x y (some p) (some q) = .imm (.fn f p q):=_root_.id rfl
def dcC (d : D) (r : Option (List D)) : Option (List D):=match r with | some ds => some (d :: ds) | none => none
theorem dc_some : dcC d (some ds) = some (d :: ds):=_root_.id rfl
theorem dc_none : dcC d none = none:=_root_.id rfl
theorem ds_nil : dsOf [] = some []:=_root_.id rfl
theorem ds_imm : dsOf (.imm d :: r) = dcC d (dsOf r):=_root_.id rfl
theorem ds_agg : dsOf (.agg cs :: r) = none:=_root_.id rfl
theorem ds_ref {lw : Nat} : dsOf (.ref id sz lw n :: r) = none:=_root_.id rfl
theorem ds_ptr : dsOf (.ptr id off :: r) = none:=_root_.id rfl
theorem ce_agg : cellsOf (.imm (.agg ds)) = ds.map .imm:=_root_.id rfl
theorem ce_agg' : cellsOf (.agg cs) = cs:=_root_.id rfl
theorem ce_int {k : IntKind} {x : Int} : cellsOf (.imm (.int k x)) = [.imm (.int k x)]:=_root_.id rfl
theorem ce_bool : cellsOf (.imm (.bool b)) = [.imm (.bool b)]:=_root_.id rfl
theorem ce_sl : cellsOf (.imm (.sl sz es)) = [.imm (.sl sz es)]:=_root_.id rfl
theorem ce_slD : cellsOf (.imm (slD b sz es)) = [.imm (slD b sz es)]:=by cases b <;> cases es <;> rfl
theorem ce_nil : cellsOf (.imm .nil) = [.imm .nil]:=_root_.id rfl
theorem ce_fn {f : FuncId} {x y : List D} : cellsOf (.imm (.fn f x y)) = [.imm (.fn f x y)]:=_root_.id rfl
theorem ce_ref {lw : Nat} : cellsOf (.ref id sz lw n) = [.ref id sz lw n]:=_root_.id rfl
theorem ce_ptr : cellsOf (.ptr id off) = [.ptr id off]:=_root_.id rfl
theorem ce_map : cellsOf (.map id) = [.map id]:=_root_.id rfl
theorem sg_int {k : IntKind} {x : Int} : single (.imm (.int k x)) = true:=_root_.id rfl
theorem sg_bool : single (.imm (.bool b)) = true:=_root_.id rfl
theorem sg_sl : single (.imm (.sl sz es)) = true:=_root_.id rfl
theorem sg_slD : single (.imm (slD b sz es)) = true:=by cases b <;> cases es <;> rfl
theorem sg_nil : single (.imm .nil) = true:=_root_.id rfl
theorem sg_fn {f : FuncId} {x y : List D} : single (.imm (.fn f x y)) = true:=_root_.id rfl
theorem sg_ref {lw : Nat} : single (.ref id sz lw n) = true:=_root_.id rfl
theorem sg_ptr : single (.ptr id off) = true:=_root_.id rfl
theorem sg_map : single (.map id) = true:=_root_.id rfl
def soC (st : List AO) (id n off : Nat) (vs : List AV) (o : Option AO) : Option (List AO):=match o with
  | some (.box cs) => if off + n ≤ cs.length then some (st.set id (.box (setRange cs off vs))) else none
  | some (.arr sz es) => match es[off / sz]?,dsOf vs with
    | some e,some ds => if off % sz + n ≤ e.length then some (st.set id (.arr sz (es.set (off / sz) (setRange e (off % sz) ds)))) else none
    | _,_ => none
  | _ => none
theorem so_ptr (h1 : (cellsOf v).length = n) (h2 : (cellsOf v).all single = true) : aStore st n (.ptr id off) v = soC st id n off (cellsOf v) st[id]?:=by
  simp only [aStore,h1,h2,ne_eq,not_true_eq_false,Bool.true_eq_false,or_self,if_false,soC]; rfl
theorem so_box (h : off + n ≤ cs.length) : soC st id n off vs (some (.box cs)) = some (st.set id (.box (setRange cs off vs))):=by simp [soC,h]
def saC (st : List AO) (id n off sz : Nat) (es : List (List D)) (e : Option (List D)) (ds : Option (List D)) : Option (List AO):=match e,ds with
    | some e,some ds => if off % sz + n ≤ e.length then some (st.set id (.arr sz (es.set (off / sz) (setRange e (off % sz) ds)))) else none
    | _,_ => none
theorem so_arr : soC st id n off vs (some (.arr sz es)) = saC st id n off sz es es[off / sz]? (dsOf vs):=_root_.id rfl
theorem sa_some (h : off % sz + n ≤ e.length) : saC st id n off sz es (some e) (some ds) = some (st.set id (.arr sz (es.set (off / sz) (setRange e (off % sz) ds)))):=by simp [saC,h]
def stC (vars : List AV) (ext : Option Ext) (r : Option (List AO)) : Option (AV × S):=match r with | some st => some (.junk,⟨vars,st,ext⟩) | none => none
theorem stC_some : stC vars ext (some st) = some (.junk,⟨vars,st,ext⟩):=_root_.id rfl
theorem op_store {a x : Opnd} : aOp lo vars env ⟨vars,st,ext⟩ (.store n a x) = stC vars ext (aStore st n (opnd vars env a) (opnd vars env x)):=_root_.id rfl
theorem src_nil' : srcOf st (.imm .nil) = some (0,[]):=_root_.id rfl
theorem src_sl' : srcOf st (.imm (.sl sz es)) = some (sz,es):=_root_.id rfl
def srC (sz lw n : Nat) (o : Option AO) : Option (Nat × List (List D)):=match o with
  | some (.arr sz' es) => if sz' = sz ∧ lw + n ≤ es.length then some (sz,(es.drop lw).take n) else none
  | some (.farr sz' es) => if sz' = sz ∧ lw + n ≤ es.length then some (sz,(es.drop lw).take n) else none
  | some (.box cs) => match dsOf cs with | some ds => if (lw + n) * sz ≤ ds.length then some (sz,chunks sz n (ds.drop (lw * sz))) else none | none => none
  | _ => none
theorem src_ref {lw : Nat} : srcOf st (.ref id sz lw n) = srC sz lw n st[id]?:=by
  simp only [srcOf,deep,srC]
  cases st[id]? with
  | none => rfl
  | some o =>
    cases o with
    | arr sz' es => by_cases h : sz' = sz ∧ lw + n ≤ es.length <;> simp [h]
    | farr sz' es => by_cases h : sz' = sz ∧ lw + n ≤ es.length <;> simp [h]
    | box cs =>
      dsimp only
      cases dsOf cs with
      | none => rfl
      | some ds => by_cases h : (lw + n) * sz ≤ ds.length <;> simp [h]
    | _ => rfl
theorem sr_arr {lw : Nat} (h : lw + n ≤ es.length) : srC sz lw n (some (.arr sz es)) = some (sz,(es.drop lw).take n):=by simp [srC,h]
theorem sr_farr {lw : Nat} (h : lw + n ≤ es.length) : srC sz lw n (some (.farr sz es)) = some (sz,(es.drop lw).take n):=by simp [srC,h]
def apC (st : List AO) (nid sz bytes : Nat) (s : AV) (r : Option (Nat × List (List D))) : Option (AV × Option Nat × List AO):=match r with
  | none => none
  | some (sz',es) =>
    if es ≠ [] ∧ sz' ≠ sz then none else
    match s with
    | .imm .nil => if es.isEmpty then some (.imm .nil,none,[]) else if es.length * (bytes + 1) ≤ room then some (.ref nid sz 0 es.length,none,[.arr sz es]) else none
    | .e0 sz0 => if sz0 ≠ sz then none else if es.isEmpty then some (.e0 sz,none,[]) else if es.length * (bytes + 1) ≤ room then some (.ref nid sz 0 es.length,none,[.arr sz es]) else none
    | .ref id sz0 lo n => match st[id]? with
      | some (.arr sz1 old) =>
        if sz0 = sz ∧ sz1 = sz ∧ lo = 0 ∧ n ≤ old.length ∧ (n + es.length) * (bytes + 1) ≤ room then
          some (.ref nid sz 0 (n + es.length),some id,[.arr sz (old.take n ++ es ++ restE sz old (n + es.length))]) else none
      | _ => none
    | _ => none
theorem ap_eq {bytes : Nat} {s x : AV} : aAppend st nid sz bytes s x = apC st nid sz bytes s (srcOf st x):=_root_.id rfl
theorem ap_nil0 {bytes : Nat} : apC st nid sz bytes (.imm .nil) (some (m,[])) = some (.imm .nil,none,[]):=by simp [apC]
theorem ap_nil {bytes : Nat} (h0 : es.isEmpty = false) (h : es.length * (bytes + 1) ≤ 70368744177664) : apC st nid sz bytes (.imm .nil) (some (sz,es)) = some (.ref nid sz 0 es.length,none,[.arr sz es]):=by
  simp [apC,h0,room,h]
theorem ap_e00 {bytes : Nat} : apC st nid sz bytes (.e0 sz) (some (m,[])) = some (.e0 sz,none,[]):=by simp [apC]
theorem ap_e0 {bytes : Nat} (h0 : es.isEmpty = false) (h : es.length * (bytes + 1) ≤ 70368744177664) : apC st nid sz bytes (.e0 sz) (some (sz,es)) = some (.ref nid sz 0 es.length,none,[.arr sz es]):=by
  simp [apC,h0,room,h]
def arC (nid sz bytes id n m : Nat) (es : List (List D)) (o : Option AO) : Option (AV × Option Nat × List AO):=match o with
      | some (.arr sz1 old) =>
        if (es.isEmpty = true ∨ m = sz) ∧ sz1 = sz ∧ n ≤ old.length ∧ (n + es.length) * (bytes + 1) ≤ 70368744177664 then
          some (.ref nid sz 0 (n + es.length),some id,[.arr sz (old.take n ++ es ++ restE sz old (n + es.length))]) else none
      | _ => none
theorem ap_ref {bytes : Nat} : apC st nid sz bytes (.ref id sz 0 n) (some (m,es)) = arC nid sz bytes id n m es st[id]?:=by
  simp only [apC,arC,room]
  by_cases h : es ≠ [] ∧ m ≠ sz
  · have h2 : ¬ (es.isEmpty = true ∨ m = sz):=by simp [List.isEmpty_iff]; exact h
    rw [if_pos h]
    cases st[id]? with
    | none => rfl
    | some o => cases o <;> first | rfl | (dsimp only; rw [if_neg fun hc => h2 hc.1])
  · have h2 : es.isEmpty = true ∨ m = sz:=by
      rw [List.isEmpty_iff]
      by_cases h3 : es = []
      · exact .inl h3
      · exact .inr (Classical.byContradiction fun h4 => h ⟨h3,h4⟩)
    rw [if_neg h]
    cases st[id]? with
    | none => rfl
    | some o => cases o <;> first | rfl | (dsimp only; simp only [h2,true_and])
theorem rest_nil {k : Nat} (h : old.length ≤ k) : restE sz old k = []:=by
  unfold restE; split
  · rfl
  · exact List.drop_eq_nil_of_le h
theorem rest_drop {k : Nat} : restE (sz + 1) old k = old.drop k:=_root_.id rfl
theorem ar_some {bytes : Nat} (h2 : n = old.length) (h : (n + es.length) * (bytes + 1) ≤ 70368744177664) : arC nid sz bytes id n sz es (some (.arr sz old)) = some (.ref nid sz 0 (n + es.length),some id,[.arr sz (old.take n ++ es)]):=by
  have h3 : n ≤ old.length:=Nat.le_of_eq h2
  simp [arC,h3,h,rest_nil (show old.length ≤ n + es.length by omega)]
theorem ar_rest {bytes : Nat} (h2 : n ≤ old.length) (h : (n + es.length) * (bytes + 1) ≤ 70368744177664) : arC nid sz bytes id n sz es (some (.arr sz old)) = some (.ref nid sz 0 (n + es.length),some id,[.arr sz (old.take n ++ es ++ restE sz old (n + es.length))]):=by
  simp [arC,h2,h]
def apS (vars : List AV) (st : List AO) (ext : Option Ext) (r : Option (AV × Option Nat × List AO)) : Option (AV × S):=match r with
  | some (v,none,news) => some (v,⟨vars,st ++ news,ext⟩)
  | some (v,some id,news) => some (v,⟨vars,st.set id .dead ++ news,ext⟩)
  | none => none
theorem apS_n : apS vars st ext (some (v,none,news)) = some (v,⟨vars,st ++ news,ext⟩):=_root_.id rfl
theorem apS_s : apS vars st ext (some (v,some id,news)) = some (v,⟨vars,st.set id .dead ++ news,ext⟩):=_root_.id rfl
theorem op_append {bytes : Nat} {x y : Opnd} : aOp lo vars env ⟨vars,st,ext⟩ (.append sz bytes x y) = apS vars st ext (aAppend st st.length sz bytes (opnd vars env x) (opnd vars env y)):=by
  simp only [aOp,apS]
  rcases aAppend st st.length sz bytes (opnd vars env x) (opnd vars env y) with _ | ⟨_,_ | _,_⟩ <;> rfl
def bsC (vars : List AV) (ext : Option Ext) (own : Bool) (sz : Nat) (z : List D) (n : Nat) (ps : List (Nat × AV)) (r : Option (List AO)) : Option (AV × S):=match r with
  | some st => qC ⟨vars,st,ext⟩ (aBs st.length own sz z n (ps.map fun p => (p.1,fz st p.2)))
  | none => none
theorem op_bslice {own : Bool} {z : List D} {ps : List (Nat × Opnd)} : aOp lo vars env ⟨vars,st,ext⟩ (.bslice own sz z n ps) = bsC vars ext own sz z n (ps.map fun p => (p.1,opnd vars env p.2)) (freeze st (idsL (ps.map fun p => opnd vars env p.2))):=by
  simp only [aOp,bsC]
  cases freeze st (idsL (ps.map fun p => opnd vars env p.2)) with
  | none => rfl
  | some st' =>
    simp only [List.map_map,Function.comp_def,qC]
    all_goals (rcases aBs st'.length own sz z n (ps.map fun p => (p.1,fz st' (opnd vars env p.2))) with _ | ⟨_,_⟩ <;> rfl)
theorem bs_some {own : Bool} {z : List D} {ps : List (Nat × AV)} : bsC vars ext own sz z n ps (some st) = qC ⟨vars,st,ext⟩ (aBs st.length own sz z n (ps.map fun p => (p.1,fz st p.2))):=_root_.id rfl
theorem q_bslice' {own : Bool} {z : List D} {ps : List (Nat × Opnd)} : aQ lo vars env st nid (.bslice own sz z n ps) = aBs nid own sz z n (ps.map fun p => (p.1,opnd vars env p.2)):=_root_.id rfl
def fzC (v : AV) (f : Bool) (r : Option D) : AV:=match f,r with | true,some d => .imm d | _,_ => v
theorem fz_eq : fz st v = fzC v (isFrz st (ids v)) (deep st v):=by
  simp only [fz,fzC]
  cases isFrz st (ids v) <;> simp
  cases deep st v <;> rfl
theorem fzC_some : fzC v true (some d) = .imm d:=_root_.id rfl
theorem bs_nil {own : Bool} {z : List D} : aBs nid own sz z 0 [] = some (.e0 sz,[]):=_root_.id rfl
def boC (own : Bool) (nid sz n : Nat) (ok : Bool) (ds : List D) : Option (AV × List AO):=match ok with
  | true => (match own with | true => some (.ref nid sz 0 n,[.arr sz (chunks sz n ds)]) | false => some (.imm (.sl sz (chunks sz n ds)),[]))
  | false => none
theorem bo_f : boC false nid sz n true ds = some (.imm (.sl sz (chunks sz n ds)),[]):=_root_.id rfl
theorem bo_t : boC true nid sz n true ds = some (.ref nid sz 0 n,[.arr sz (chunks sz n ds)]):=_root_.id rfl
def bfC (own : Bool) (nid sz n : Nat) (r : Option (List AV)) : Option (AV × List AO):=match r with
  | some cs => match dsOf cs with
    | some ds => boC own nid sz n (decide (n * sz ≤ 16777216) && cs.all single) ds
    | none => none
  | none => none
def bgC (own : Bool) (nid sz n : Nat) (cs : List AV) (r : Option (List D)) : Option (AV × List AO):=match r with
    | some ds => boC own nid sz n (decide (n * sz ≤ 16777216) && cs.all single) ds
    | none => none
theorem bf_some : bfC b nid sz n (some cs) = bgC b nid sz n cs (dsOf cs):=_root_.id rfl
theorem bg_some : bgC b nid sz n cs (some ds) = boC b nid sz n (decide (n * sz ≤ 16777216) && cs.all single) ds:=_root_.id rfl
theorem bs_succ {own : Bool} {z : List D} {ps : List (Nat × AV)} : aBs nid own sz z (n + 1) ps = bfC own nid sz (n + 1) (fillA ((List.replicate (n + 1) (z.map .imm)).flatten) (ps.map fun p => (p.1 * sz,sz,p.2))):=by
  simp only [aBs,bfC]
  cases fillA ((List.replicate (n + 1) (z.map .imm)).flatten) (ps.map fun p => (p.1 * sz,sz,p.2)) with
  | none => rfl
  | some cs =>
    simp only
    cases dsOf cs with
    | none => rfl
    | some ds =>
      simp only [boC]
      by_cases h1 : (n + 1) * sz ≤ 16777216 <;> cases h2 : cs.all single <;> cases own <;> simp [h1]
theorem fill_nil {z : List AV} : fillA z [] = some z:=_root_.id rfl
theorem fill_cons {z : List AV} {ps : List (Nat × Nat × AV)} (h1 : (cellsOf v).length = n) (h2 : off + n ≤ z.length) (h3 : (cellsOf v).all single = true) : fillA z ((off,n,v) :: ps) = fillA (z.take off ++ cellsOf v ++ z.drop (off + n)) ps:=by
  simp only [fillA,h1,h2,h3,and_self,if_true]
theorem ch_zero : chunks sz 0 ds = []:=_root_.id rfl
theorem ch_succ : chunks sz (n + 1) ds = ds.take sz :: chunks sz n (ds.drop sz):=_root_.id rfl
theorem dp_imm : deep st (.imm d) = some d:=by simp [deep]
def dlC (r : Option (List D)) (f : List D → D) : Option D:=match r with | some ds => some (f ds) | none => none
theorem dl_some {f : List D → D} : dlC (some ds) f = some (f ds):=_root_.id rfl
theorem dp_agg : deep st (.agg cs) = dlC (deepL st cs) .agg:=by simp only [deep,dlC]; cases deepL st cs <;> rfl
theorem dp_tup : deep st (.tup cs) = dlC (deepL st cs) .tup:=by simp only [deep,dlC]; cases deepL st cs <;> rfl
def drC (sz : Nat) (r : Option (Nat × List (List D))) : Option D:=match r with | some (_,es) => some (.sl sz es) | none => none
theorem dr_some : drC sz (some (m,es)) = some (.sl sz es):=_root_.id rfl
theorem dp_ref {lw : Nat} : deep st (.ref id sz lw n) = drC sz (srC sz lw n st[id]?):=by
  simp only [deep,srC,drC]
  cases st[id]? with
  | none => rfl
  | some o =>
    cases o with
    | arr sz' es => by_cases h : sz' = sz ∧ lw + n ≤ es.length <;> simp [h]
    | farr sz' es => by_cases h : sz' = sz ∧ lw + n ≤ es.length <;> simp [h]
    | box cs =>
      simp only
      cases dsOf cs with
      | none => rfl
      | some ds => by_cases h : (lw + n) * sz ≤ ds.length <;> simp [h]
    | _ => rfl
theorem dL_nil : deepL st [] = some []:=by simp [deepL]
def dkC (a : Option D) (r : Option (List D)) : Option (List D):=match a,r with | some d,some ds => some (d :: ds) | _,_ => none
theorem dk_some : dkC (some d) (some ds) = some (d :: ds):=_root_.id rfl
theorem dL_cons : deepL st (v :: r) = dkC (deep st v) (deepL st r):=by simp only [deepL,dkC]; cases deep st v <;> cases deepL st r <;> rfl
theorem id_imm : ids (.imm d) = []:=by simp [ids]
theorem id_agg : ids (.agg cs) = idsL cs:=by simp [ids]
theorem id_ref {lw : Nat} : ids (.ref id sz lw n) = [id]:=by simp [ids]
theorem id_ptr : ids (.ptr id off) = [id]:=by simp [ids]
theorem id_map : ids (.map id) = [id]:=by simp [ids]
theorem id_clo {f : FuncId} {x y : List AV} : ids (.clo f x y) = idsL x ++ idsL y:=by simp [ids]
theorem id_e0 : ids (.e0 sz) = []:=by simp [ids]
theorem id_yield : ids .yield = []:=by simp [ids]
theorem id_junk : ids .junk = []:=by simp [ids]
theorem iL_nil : idsL [] = []:=by simp [idsL]
theorem iL_cons : idsL (v :: r) = ids v ++ idsL r:=by simp [idsL]
theorem if_nil : isFrz st [] = true:=by simp [isFrz]
def fnC (o : Option AO) : Bool:=match o with | some (.fbox _) | some (.farr _ _) => true | _ => false
theorem if_cons {is : List Nat} : isFrz st (i :: is) = (fnC st[i]? && isFrz st is):=by
  simp only [isFrz,fnC]; rfl
theorem fn_farr : fnC (some (.farr sz es)) = true:=_root_.id rfl
theorem fn_box : fnC (some (.box cs)) = false:=_root_.id rfl
theorem fn_arr : fnC (some (.arr sz es)) = false:=_root_.id rfl
theorem fr_nil : freeze st [] = some st:=_root_.id rfl
def fsC (i : Nat) (st : List AO) (o : Option AO) : Option (List AO):=match o with | some o => some (st.set i o) | none => none
theorem fs_some {o : AO} : fsC i st (some o) = some (st.set i o):=_root_.id rfl
def frC (i : Nat) (r : Option (List AO)) : Option (List AO):=match r with | some st => fsC i st (frozenO (st.getD i .dead)) | none => none
theorem fr_some : frC i (some st) = fsC i st (frozenO (st.getD i .dead)):=_root_.id rfl
theorem fr_cons {is : List Nat} : freeze st (i :: is) = frC i (freeze st is):=by
  simp only [freeze,frC,fsC]
  rcases freeze st is with _ | _ <;> first | rfl | (simp only; rcases frozenO _ with _ | _ <;> rfl)
theorem fo_arr : frozenO (.arr sz es) = some (.farr sz es):=_root_.id rfl
def cpC (s : S) (is : List Nat) (r : Option D) : Option (AV × S):=match r with
  | none => none
  | some d => if isFrz s.st is || flatD d then some (.imm d,s) else match freeze s.st is with
    | some st => some (.imm d,{ s with st:=st })
    | none => none
theorem cp_some {is : List Nat} (h : (isFrz st is || flatD d) = true) : cpC ⟨vars,st,ext⟩ is (some d) = some (.imm d,⟨vars,st,ext⟩):=by simp [cpC,h]
def cqC (d : D) (vars : List AV) (ext : Option Ext) (r : Option (List AO)) : Option (AV × S):=match r with | some st => some (.imm d,⟨vars,st,ext⟩) | none => none
theorem cq_some : cqC d vars ext (some st) = some (.imm d,⟨vars,st,ext⟩):=_root_.id rfl
theorem cp_frz {is : List Nat} (h : (isFrz st is || flatD d) = false) : cpC ⟨vars,st,ext⟩ is (some d) = cqC d vars ext (freeze st is):=by simp [cpC,h,cqC]
def cdC (lo : Lower) (f : FuncId) (s : S) (is : List Nat) (r : Option (List D)) : Option (AV × S):=match r with | none => none | some ds => cpC s is (callP lo f ds)
theorem cd_some {f : FuncId} {is : List Nat} : cdC lo f s is (some ds) = cpC s is (callP lo f ds):=_root_.id rfl
def cfC (lo : Lower) (s : S) (vs : List AV) (r : Option (FuncId × List AV × List AV)) : Option (AV × S):=match r with
  | none => none
  | some (f,a,b) => cdC lo f s (idsL (a ++ vs ++ b)) (deepL s.st (a ++ vs ++ b))
theorem cf_some {f : FuncId} {p q : List AV} : cfC lo ⟨vars,st,ext⟩ vs (some (f,p,q)) = cdC lo f ⟨vars,st,ext⟩ (idsL (p ++ vs ++ q)) (deepL st (p ++ vs ++ q)):=_root_.id rfl
theorem fo_imm {f : FuncId} {x y : List D} : fnOf (.imm (.fn f x y)) = some (f,x.map .imm,y.map .imm):=_root_.id rfl
theorem fo_clo {f : FuncId} {x y : List AV} : fnOf (.clo f x y) = some (f,x,y):=_root_.id rfl
theorem op_callP {f : Opnd} {args : List Opnd} (h : (fnOf (opnd vars env f)).isSome = true) : aOp lo vars env ⟨vars,st,ext⟩ (.call .pure f args) = cfC lo ⟨vars,st,ext⟩ (opnds vars env args) (fnOf (opnd vars env f)):=by
  simp only [aOp,aCall]
  split
  · rename_i e; rw [e] at h; cases h
  · simp only [cfC]
    rcases fnOf (opnd vars env f) with _ | ⟨f,a,b⟩
    · rfl
    · simp only [cdC]
      rcases deepL st (a ++ opnds vars env args ++ b) with _ | ds
      · rfl
      · simp only [cpC]
        rcases callP lo f ds with _ | d
        · rfl
        · simp only
          split
          · rfl
          · rcases freeze st (idsL (a ++ opnds vars env args ++ b)) with _ | _ <;> rfl
theorem os_nil : opnds vars env [] = []:=_root_.id rfl
theorem os_cons {x : Opnd} {xs : List Opnd} : opnds vars env (x :: xs) = opnd vars env x :: opnds vars env xs:=_root_.id rfl
theorem od_var : opnd vars env (.var i) = vars.getD i .junk:=_root_.id rfl
theorem od_loc : opnd vars env (.loc i) = env.getD i .junk:=_root_.id rfl
theorem od_k : opnd vars env (.k d) = .imm d:=_root_.id rfl
theorem fl_int {k : IntKind} {x : Int} : flatD (.int k x) = true:=by simp [flatD]
theorem fl_bool : flatD (.bool b) = true:=by simp [flatD]
theorem fl_nil : flatD .nil = true:=by simp [flatD]
theorem fl_sl : flatD (.sl sz es) = false:=by simp [flatD]
theorem fl_fn {f : FuncId} {x y : List D} : flatD (.fn f x y) = false:=by simp [flatD]
theorem fl_tup : flatD (.tup ds) = flatDL ds:=by simp [flatD]
theorem fl_agg : flatD (.agg ds) = flatDL ds:=by simp [flatD]
theorem fL_nil : flatDL [] = true:=by simp [flatDL]
theorem fL_cons : flatDL (d :: ds) = (flatD d && flatDL ds):=by simp [flatDL]
def gcC (ext : Option Ext) (st : List AO) (vs : List AV) (l : List Nat) : S:=⟨renL (idx l) vs,pickSt (idx l) l st,ext⟩
theorem head_eq {rd : Bool} {kp : List Nat} : head ⟨n,rd⟩ kp ⟨vars,st,ext⟩ = gcC ext st (keepVars kp vars) (keepIds n (idsL (keepVars kp vars)) st):=_root_.id rfl
theorem gcC_eq {l : List Nat} : gcC ext st vs l = ⟨renL (idx l) vs,pickSt (idx l) l st,ext⟩:=_root_.id rfl
theorem kv_nil : keepVars [] [] = []:=_root_.id rfl
theorem kv_0 {ks : List Nat} : keepVars (0 :: ks) (v :: r) = .junk :: keepVars ks r:=_root_.id rfl
theorem kv_1 {ks : List Nat} : keepVars (1 :: ks) (v :: r) = v :: keepVars ks r:=_root_.id rfl
theorem ki_eq {roots : List Nat} : keepIds n roots st = reach st 1000 (List.range n) ((List.range n).flatMap (fun i => aoIds (st.getD i .dead)) ++ roots):=_root_.id rfl
theorem fm_nil {f : Nat → List Nat} : List.flatMap f [] = []:=_root_.id rfl
theorem fm_cons {f : Nat → List Nat} {is : List Nat} : List.flatMap f (i :: is) = f i ++ List.flatMap f is:=by simp
theorem rc_nil {acc : List Nat} : reach st n acc [] = acc:=by cases n <;> rfl
theorem rc_in {acc todo : List Nat} (h : acc.contains i = true) : reach st (n + 1) acc (i :: todo) = reach st n acc todo:=by simp only [reach,h,if_true]
theorem rc_out {acc todo : List Nat} (h : acc.contains i = false) : reach st (n + 1) acc (i :: todo) = reach st n (acc ++ [i]) (todo ++ aoIds (st.getD i .dead)):=by simp only [reach,h]; rfl
theorem ai_box : aoIds (.box cs) = idsL cs:=_root_.id rfl
theorem ai_arr : aoIds (.arr sz es) = []:=_root_.id rfl
theorem ai_farr : aoIds (.farr sz es) = []:=_root_.id rfl
theorem ai_imap {es : List (Int × D)} : aoIds (.imap es) = []:=_root_.id rfl
theorem ai_iter {x : ByteArray} : aoIds (.iter x n) = []:=_root_.id rfl
theorem ai_dead : aoIds .dead = []:=_root_.id rfl
theorem ix_hit {is : List Nat} : idx (i :: is) i = some 0:=by simp [idx,List.idxOf?,List.findIdx?_cons]
theorem ix_miss {is : List Nat} (h : (m == i) = false) : idx (m :: is) i = (idx is i).map (· + 1):=by simp [idx,List.idxOf?,List.findIdx?_cons,h]
theorem ix_nil : idx [] i = none:=by simp [idx]
theorem rL_nil {f : Nat → Option Nat} : renL f [] = []:=by simp [renL]
theorem rL_cons {f : Nat → Option Nat} : renL f (v :: r) = ren f v :: renL f r:=by simp [renL]
theorem rn_imm {f : Nat → Option Nat} : ren f (.imm d) = .imm d:=by simp [ren]
def rfC (o : Option Nat) (sz lw n : Nat) : AV:=match o with | some j => .ref j sz lw n | none => .junk
theorem rf_some {lw : Nat} : rfC (some i) sz lw n = .ref i sz lw n:=_root_.id rfl
theorem rn_ref {f : Nat → Option Nat} {lw : Nat} : ren f (.ref id sz lw n) = rfC (f id) sz lw n:=by simp only [ren,rfC]; rfl
def rpC (o : Option Nat) (off : Nat) : AV:=match o with | some j => .ptr j off | none => .junk
theorem rp_some : rpC (some i) off = .ptr i off:=_root_.id rfl
theorem rn_ptr {f : Nat → Option Nat} : ren f (.ptr id off) = rpC (f id) off:=by simp only [ren,rpC]; rfl
def rmC (o : Option Nat) : AV:=match o with | some j => .map j | none => .junk
theorem rm_some : rmC (some i) = .map i:=_root_.id rfl
theorem rn_map {f : Nat → Option Nat} : ren f (.map id) = rmC (f id):=by simp only [ren,rmC]; rfl
theorem rn_clo {f : Nat → Option Nat} {g : FuncId} {x y : List AV} : ren f (.clo g x y) = .clo g (renL f x) (renL f y):=by simp [ren]
theorem rn_e0 {f : Nat → Option Nat} : ren f (.e0 sz) = .e0 sz:=by simp [ren]
theorem rn_yield {f : Nat → Option Nat} : ren f .yield = .yield:=by simp [ren]
theorem rn_junk {f : Nat → Option Nat} : ren f .junk = .junk:=by simp [ren]
theorem pk_nil {f : Nat → Option Nat} : pickSt f [] st = []:=_root_.id rfl
theorem pk_cons {f : Nat → Option Nat} {is : List Nat} : pickSt f (i :: is) st = renO f (st.getD i .dead) :: pickSt f is st:=_root_.id rfl
theorem ro_box {f : Nat → Option Nat} : renO f (.box cs) = .box (renL f cs):=_root_.id rfl
theorem ro_arr {f : Nat → Option Nat} : renO f (.arr sz es) = .arr sz es:=_root_.id rfl
theorem ro_farr {f : Nat → Option Nat} : renO f (.farr sz es) = .farr sz es:=_root_.id rfl
theorem ro_imap {f : Nat → Option Nat} {es : List (Int × D)} : renO f (.imap es) = .imap es:=_root_.id rfl
theorem ro_iter {f : Nat → Option Nat} {x : ByteArray} : renO f (.iter x n) = .iter x n:=_root_.id rfl
theorem ro_dead {f : Nat → Option Nat} : renO f .dead = .dead:=_root_.id rfl
theorem sh_M : shiftM n i = some (n + i):=_root_.id rfl
def rsC (r : Option (List AV)) : Option AV:=match r with | some [v] => some v | some vs => some (mkTup vs) | none => none
theorem rs_one : rsC (some [v]) = some v:=_root_.id rfl
theorem rs_two {x y : AV} : rsC (some (x :: y :: r)) = some (mkTup (x :: y :: r)):=_root_.id rfl
theorem rs_zero : rsC (some []) = some (mkTup []):=_root_.id rfl
theorem res_eq {l : List RV} : results s l = rsC (resVs s l):=_root_.id rfl
theorem rv_nil : resVs s [] = some []:=_root_.id rfl
def rcC (a : Option AV) (r : Option (List AV)) : Option (List AV):=match a,r with | some v,some vs => some (v :: vs) | _,_ => none
theorem rcC_some : rcC (some v) (some vs) = some (v :: vs):=_root_.id rfl
theorem rv_cons {x : RV} {xs : List RV} : resVs s (x :: xs) = rcC (resV s x) (resVs s xs):=by simp only [resVs,rcC]; cases resV s x <;> cases resVs s xs <;> rfl
theorem rv_v : resV ⟨vars,st,ext⟩ (.v i) = some (vars.getD i .junk):=_root_.id rfl
theorem rv_cell {g : Bool} : resV ⟨vars,st,ext⟩ (.cell i g n) = aLoad st g n (vars.getD i .junk):=_root_.id rfl
end
def fin (res : List RV) (r : Option (AExit × S)) : Option (AV × List AO × Option Ext):=match r with
  | some (.normal,s) => (match results s res with | some v => some (v,s.st,s.ext) | none => none)
  | some (.ret,s) => (match results s res with | some v => some (v,s.st,s.ext) | none => none)
  | _ => none
def fvC (st : List AO) (ext : Option Ext) (r : Option AV) : Option (AV × List AO × Option Ext):=match r with | some v => some (v,st,ext) | none => none
theorem fv_some {v : AV} {st : List AO} {ext : Option Ext} : fvC st ext (some v) = some (v,st,ext):=id rfl
theorem fin_ret {res : List RV} {vars : List AV} {st : List AO} {ext : Option Ext} : fin res (some (.ret,⟨vars,st,ext⟩)) = fvC st ext (results ⟨vars,st,ext⟩ res):=by
  simp only [fin,fvC]
theorem fin_normal {res : List RV} {vars : List AV} {st : List AO} {ext : Option Ext} : fin res (some (.normal,⟨vars,st,ext⟩)) = fvC st ext (results ⟨vars,st,ext⟩ res):=by
  simp only [fin,fvC]
theorem run_eq {lo : Lower} {fn : IFn} {args : List AV} {st : List AO} {ext : Option Ext} (h : decide (fn.np < args.length) = false) : runFn lo fn args st ext = fin fn.res (aCode lo { nb:=st.length,rd:=false } fn.body { vars:=args ++ List.replicate (fn.nv - args.length) .junk,st:=st,ext:=ext }):=by
  have h' : ¬ fn.np < args.length:=by simpa using h
  simp only [runFn,h',if_false,fin]
  rcases aCode lo { nb:=st.length,rd:=false } fn.body { vars:=args ++ List.replicate (fn.nv - args.length) .junk,st:=st,ext:=ext } with _ | ⟨_ | _ | _,_⟩ <;> rfl
def pdC (r : Option (AV × List AO × Option Ext)) : Option D:=match r with
  | some (v,st,none) => deep st v
  | _ => none
theorem pd_some {v : AV} {st : List AO} : pdC (some (v,st,none)) = deep st v:=id rfl
theorem callP_eq {E : Env} {n : Nat} {f : FuncId} {fn : IFn} {ds : List D} (h : E.fn f = some fn) : callP (level E (n + 1)) f ds = pdC (runFn (level E n) fn (ds.map .imm) [] none):=by
  simp only [callP,level,h,pdC]
  rcases runFn (level E n) fn (ds.map .imm) [] none with _ | ⟨_,_,_ | _⟩ <;> rfl
def piC (r : Option (AV × List AO × Option Ext)) : Option (AV × List AO):=match r with
  | some (v,st,none) => some ((gc 0 [v] st).1.headD .junk,(gc 0 [v] st).2)
  | _ => none
theorem pi_some {v : AV} {st : List AO} : piC (some (v,st,none)) = some ((gc 0 [v] st).1.headD .junk,(gc 0 [v] st).2):=id rfl
theorem callI_eq {E : Env} {n : Nat} {f : FuncId} {fn : IFn} {ds : List D} (h : E.fn f = some fn) : callI (level E (n + 1)) f ds = piC (runFn (level E n) fn (ds.map .imm) [] none):=by
  simp only [callI,level,h,piC]
  rcases runFn (level E n) fn (ds.map .imm) [] none with _ | ⟨_,_,_ | _⟩ <;> rfl
def psC (n : Nat) (r : Option (AV × List AO × Option Ext)) : Option (AV × List AO):=match r with
  | some (v,st,none) => some ((gc n [v] st).1.headD .junk,(gc n [v] st).2)
  | _ => none
theorem ps_some {n : Nat} {v : AV} {st : List AO} : psC n (some (v,st,none)) = some ((gc n [v] st).1.headD .junk,(gc n [v] st).2):=id rfl
theorem callS_eq {E : Env} {n : Nat} {f : FuncId} {fn : IFn} {vs : List AV} {st : List AO} (h : E.fn f = some fn) : callS (level E (n + 1)) f vs st = psC st.length (runFn (level E n) fn vs st none):=by
  simp only [callS,level,h,psC]
  rcases runFn (level E n) fn vs st none with _ | ⟨_,_,_ | _⟩ <;> rfl
section
variable {lo : Lower} {env vars vs : List AV} {st news : List AO} {ext : Option Ext} {ds : List D} {v : AV}
def ciC (s : S) (is : List Nat) (r : Option (AV × List AO)) : Option (AV × S):=match r with
  | none => none
  | some r => if isFrz s.st is || (flatV r.1 && flatOL r.2) then some (ren (shiftM s.st.length) r.1,{ s with st:=s.st ++ r.2.map (renO (shiftM s.st.length)) }) else match freeze s.st is with
    | some st => some (ren (shiftM s.st.length) r.1,{ s with st:=st ++ r.2.map (renO (shiftM s.st.length)) })
    | none => none
theorem ci_some {is : List Nat} (h : (isFrz st is || (flatV v && flatOL news)) = true) : ciC ⟨vars,st,ext⟩ is (some (v,news)) = some (ren (shiftM st.length) v,⟨vars,st ++ news.map (renO (shiftM st.length)),ext⟩):=by
  simp only [ciC,h,if_true]
def ceC (lo : Lower) (f : FuncId) (s : S) (is : List Nat) (r : Option (List D)) : Option (AV × S):=match r with | none => none | some ds => ciC s is (callI lo f ds)
theorem ce_some {f : FuncId} {s : S} {is : List Nat} : ceC lo f s is (some ds) = ciC s is (callI lo f ds):=id rfl
def cgC (lo : Lower) (s : S) (vs : List AV) (r : Option (FuncId × List AV × List AV)) : Option (AV × S):=match r with
  | none => none
  | some (f,a,b) => ceC lo f s (idsL (a ++ vs ++ b)) (deepL s.st (a ++ vs ++ b))
theorem cg_some {f : FuncId} {p q : List AV} : cgC lo ⟨vars,st,ext⟩ vs (some (f,p,q)) = ceC lo f ⟨vars,st,ext⟩ (idsL (p ++ vs ++ q)) (deepL st (p ++ vs ++ q)):=id rfl
theorem op_callI {f : Opnd} {args : List Opnd} (h : (fnOf (opnd vars env f)).isSome = true) : aOp lo vars env ⟨vars,st,ext⟩ (.call .imp f args) = cgC lo ⟨vars,st,ext⟩ (opnds vars env args) (fnOf (opnd vars env f)):=by
  simp only [aOp,aCall]
  split
  · rename_i e; rw [e] at h; cases h
  · simp only [cgC]
    rcases fnOf (opnd vars env f) with _ | ⟨f,a,b⟩
    · rfl
    · simp only [ceC]
      rcases deepL st (a ++ opnds vars env args ++ b) with _ | ds
      · rfl
      · simp only [ciC]
        rcases callI lo f ds with _ | d
        · rfl
        · simp only
          split
          · rfl
          · rcases freeze st (idsL (a ++ opnds vars env args ++ b)) with _ | _ <;> rfl
theorem fv_imm {d : D} : flatV (.imm d) = flatD d:=by simp [flatV]
theorem fv_ref {id sz lw n : Nat} : flatV (.ref id sz lw n) = true:=by simp [flatV]
theorem fOL_nil : flatOL [] = true:=by simp [flatOL]
theorem fOL_cons {o : AO} {r : List AO} : flatOL (o :: r) = (flatO o && flatOL r):=by simp [flatOL]
theorem fO_arr {sz : Nat} {es : List (List D)} : flatO (.arr sz es) = flatDLL es:=by simp [flatO]
end
end Go.Vm

/- Evaluating: the rules,under one name. -/
namespace Go.Vm
open Go
attribute [go_sem] thenC_normal thenC_ret thenC_exit blkC_normal blkC_ret blkC_here blkC_on regC_some envC_some outC_some ac_skip ac_ret ac_exit ac_seq ac_region ac_block ac_true ac_false ac_scope setW_none setW_some ao_nil nx_some ao_op ao_do ao_tf ao_ft qC_new vl_some op_mv op_pick op_alloc op_box op_build op_load op_nilck op_bin op_eqs op_un op_conv op_mkfn op_mkmap op_lookup op_mkslice op_slice op_faddr op_iaddr op_extract op_len op_mnmx q_mv pick_t pick_f q_pick q_alloc box_t q_box bld_some q_build q_load nck_ptr q_nilck q_bin eq_f eq_t q_eqs q_un cv_int q_conv q_mkfn q_mkmap q_lookup mk_ok q_mkslice bd_none bd_int sl_some q_slice fa_ptr fa_imm q_faddr ia_some q_iaddr ex_imm q_extract ln_some q_len mn_int mx_int q_mnmx bin_add bin_sub bin_mul bin_rem bin_eql bin_neq bin_lss bin_leq bin_gtr bin_geq bin_shr un_not getI_int keyI_int len_sl len_slD len_ref iaP_some ia_slN ia_slDN ia_ref ia_arr ia_arrI ld_immT ld_immF ld_ptr ldC_boxF ldC_boxT el_some em_some ldC_arrF ldC_arrT mkAgg_eq ma_some ma_none mkTup_eq mt_some mt_none mkFn_eq mf_some dc_some dc_none ds_nil ds_imm ds_agg ds_ref ds_ptr ce_agg ce_agg' ce_int ce_bool ce_sl ce_slD ce_nil ce_fn ce_ref ce_ptr ce_map sg_int sg_bool sg_sl sg_slD sg_nil sg_fn sg_ref sg_ptr sg_map so_ptr so_box so_arr sa_some stC_some op_store src_nil' src_sl' src_ref sr_arr sr_farr ap_eq ap_nil0 ap_nil ap_e00 ap_e0 ap_ref ar_some apS_n apS_s op_append op_bslice bs_some q_bslice' fz_eq fzC_some bs_nil bo_f bo_t bf_some bg_some bs_succ fill_nil fill_cons ch_zero ch_succ dp_imm dl_some dp_agg dp_tup dr_some dp_ref dL_nil dk_some dL_cons id_imm id_agg id_ref id_ptr id_map id_clo id_e0 id_yield id_junk iL_nil iL_cons if_nil if_cons fn_farr fn_box fn_arr fr_nil fs_some fr_some fr_cons fo_arr cp_some cq_some cp_frz cd_some cf_some fo_imm fo_clo op_callP os_nil os_cons od_var od_loc od_k fl_int fl_bool fl_nil fl_sl fl_fn fl_tup fl_agg fL_nil fL_cons head_eq gcC_eq kv_nil kv_0 kv_1 ki_eq fm_nil fm_cons rc_nil rc_in rc_out ai_box ai_arr ai_farr ai_imap ai_iter ai_dead ix_hit ix_miss ix_nil rL_nil rL_cons rn_imm rf_some rn_ref rp_some rn_ptr rm_some rn_map rn_clo rn_e0 rn_yield rn_junk pk_nil pk_cons ro_box ro_arr ro_farr ro_imap ro_iter ro_dead sh_M rs_one rs_two rs_zero res_eq rv_nil rcC_some rv_cons rv_v rv_cell fv_some fin_ret fin_normal pd_some pi_some ps_some ci_some ce_some cg_some op_callI fv_imm fv_ref fOL_nil fOL_cons fO_arr gd0 gd1 gd2 gd3 gd4 gd5 gd6 gd7 gd8 gd9 gd10 gd11 gd12 gd13 gd14 gd15 gd16 gd17 gd18 gd19 gd20 gd21 gd22 gd23 gd24 gd25 gd26 gd27 gd28 gd29 gd30 gd31 gd32 gd33 gd34 gd35 gd36 gd37 gd38 gd39 gd40 gd41 gd42 gd43 gd44 gd45 gd46 gd47 gd48 gd49 gd50 gd51 gd52 gd53 gd54 gd55 gd56 gd57 gd58 gd59 gd60 gd61 gd62 gd63 st0 st1 st2 st3 st4 st5 st6 st7 st8 st9 st10 st11 st12 st13 st14 st15 st16 st17 st18 st19 st20 st21 st22 st23 st24 st25 st26 st27 st28 st29 st30 st31 st32 st33 st34 st35 st36 st37 st38 st39 st40 st41 st42 st43 st44 st45 st46 st47 st48 st49 st50 st51 st52 st53 st54 st55 st56 st57 st58 st59 st60 st61 st62 st63 gx0 gx1 gx2 gx3 gx4 gx5 rg0 rp1 rp2 rp3 rp6 rp10 rp12 List.nil_append List.cons_append List.append_nil List.map_cons List.map_nil List.length_cons List.length_nil List.take_succ_cons List.take_zero List.drop_succ_cons List.drop_zero List.headD_cons List.all_cons List.all_nil Bool.and_true Bool.true_and Bool.and_false Bool.false_and Bool.or_true Bool.true_or Bool.or_false Bool.false_or Bool.not_true Bool.not_false decide_true decide_false if_true if_false Option.map_some Option.map_none Option.isSome_some List.flatten_cons List.flatten_nil setRange List.length_append List.length_map Int.toNat_natCast List.take_length List.length_range reduceIte List.map_append List.isEmpty_cons List.isEmpty_nil
end Go.Vm

/- Evaluating: loops,and lists of numbers. -/
namespace Go.Vm
open Go
noncomputable def lpC (f : S → Option (AExit × S)) (h : S → S) (r : Option (AExit × S)) : Option (AExit × S) :=
  match r with
  | some (.normal,s) => loopC f h s
  | r => r
noncomputable def rnd (f : S → Option (AExit × S)) (h : S → S) (t : S) : Option (AExit × S):=lpC f h (f t)
section
variable {f : S → Option (AExit × S)} {h : S → S} {s : S}
theorem rnd_eq (f : S → Option (AExit × S)) (h : S → S) (t : S) : rnd f h t = lpC f h (f t):=id rfl
theorem loop_rnd : loopC f h s = rnd f h (h s):=loopC_step f h s
theorem lp_normal : lpC f h (some (.normal,s)) = rnd f h (h s):=loop_rnd
theorem lp_ret : lpC f h (some (.ret,s)) = some (.ret,s):=id rfl
theorem lp_exit {i : Nat} : lpC f h (some (.exit i,s)) = some (.exit i,s):=id rfl
theorem ac_loop' {lo : Lower} {cx : Cx} {b : IR} {kp out : List Nat} : aCode lo cx (.loop kp out b) s = outC cx out (rnd (aCode lo cx b) (head cx kp) (head cx kp s)):=by rw [ac_loop,loop_rnd]
end
theorem drop_c {α : Type} {l : List α} {i : Nat} {x : α} {r : List α} (h : l.drop i = x :: r) : l[i]? = some x ∧ i < l.length ∧ l.drop (i + 1) = r:=by
  have hi : i < l.length:=by
    apply Classical.byContradiction
    intro hc
    rw [List.drop_eq_nil_of_le (by omega)] at h
    cases h
  rw [List.drop_eq_getElem_cons hi] at h
  injection h with h1 h2
  exact ⟨by rw [List.getElem?_eq_getElem hi,h1],hi,h2⟩
theorem drop_n {α : Type} {l : List α} {i : Nat} (h : l.drop i = []) : l.length ≤ i:=by
  simpa using h
theorem wrpS {i : Nat} (h : i < 4611686018427387904) : wrp .i64 ((i : Int) + 1) = ((i + 1 : Nat) : Int):=by
  rw [wrp_ok (by omega)]; rfl
def ic (n : Int) : List D:=[.int .i64 n]
abbrev big : Nat:=1000000000
theorem lt_t {a b : Nat} (h : a < b) : decide ((a : Int) < (b : Int)) = true:=by simp; omega
theorem lt_f {a b : Nat} (h : b ≤ a) : decide ((a : Int) < (b : Int)) = false:=by simp; omega
theorem callP_go {E : Env} {n : Nat} {f : FuncId} {fn : IFn} {ds : List D} {c : IR} {r : List RV} {vars : List AV} (h : E.fn f = some fn) (h1 : fn.body = c) (h2 : fn.res = r) (h3 : decide (fn.np < (ds.map AV.imm).length) = false) (h4 : ds.map AV.imm ++ List.replicate (fn.nv - (ds.map AV.imm).length) .junk = vars) :
    callP (level E (n + 1)) f ds = pdC (fin r (aCode (level E n) ⟨0,false⟩ c ⟨vars,[],none⟩)):=by
  rw [callP_eq h,run_eq h3,h1,h2,h4]; rfl
theorem callI_go {E : Env} {n : Nat} {f : FuncId} {fn : IFn} {ds : List D} {c : IR} {r : List RV} {vars : List AV} (h : E.fn f = some fn) (h1 : fn.body = c) (h2 : fn.res = r) (h3 : decide (fn.np < (ds.map AV.imm).length) = false) (h4 : ds.map AV.imm ++ List.replicate (fn.nv - (ds.map AV.imm).length) .junk = vars) :
    callI (level E (n + 1)) f ds = piC (fin r (aCode (level E n) ⟨0,false⟩ c ⟨vars,[],none⟩)):=by
  rw [callI_eq h,run_eq h3,h1,h2,h4]; rfl
attribute [go_sem] ac_loop' lp_normal lp_ret lp_exit ic List.getElem?_map
end Go.Vm

/- Evaluating: regions whose order is open. -/
namespace Go.Vm
open Go
section
variable {lo : Lower} {cx : Cx} {s : S} {env vars vs : List AV} {st news n1 : List AO} {ext : Option Ext} {rest ops : List ROp} {w : Option Nat} {op : IOp} {nid m : Nat} {v : AV} {fl fs : List Nat} {ds : List D} {d : D}
def drwC (lo : Lower) (c : Nat) (tail : List ROp) (st : List AO) (ext : Option Ext) (r : Option (List AV × List AV × List AO × List Nat)) : Option (AExit × S):=match r with
  | none => none
  | some (env,vars,news,fs) => regC (envC (aTail lo fs c tail env ⟨vars,st ++ news,ext⟩))
theorem drw_some : drwC lo 0 rest st ext (some (env,vars,news,fs)) = regC (envC (aOpsT lo fs rest env ⟨vars,st ++ news,ext⟩)):=id rfl
def tlC (lo : Lower) (ops : List ROp) (r : Option (List AV × S)) : Option (List AV × S):=match r with
  | some (env,s) => aOps lo ops env s
  | none => none
theorem tl_some : tlC lo ops (some (env,s)) = aOps lo ops env s:=id rfl
theorem drw_late {c : Nat} (hc : (c == 0) = false) : drwC lo c rest st ext (some (env,vars,news,fs)) = regC (envC (tlC lo (rest.drop (c - 1)) (aOpsT lo fs (rest.take (c - 1)) env ⟨vars,st ++ news,ext⟩))):=by
  rcases c with _ | c
  · simp at hc
  · simp only [drwC,aTail,Nat.add_sub_cancel,tlC]
    rcases aOpsT lo fs (rest.take c) env ⟨vars,st ++ news,ext⟩ with _ | ⟨_,_⟩ <;> rfl
theorem ac_draw : aCode lo cx (.region ops (some (m,fl))) ⟨vars,st,ext⟩ = drwC lo (m / 1000) (ops.drop (m % 1000)) st ext (aQs lo st fl (ops.take (m % 1000)) [] vars [] []):=by
  simp only [aCode,aRegion,drwC]
  rcases aQs lo st fl (ops.take (m % 1000)) [] vars [] [] with _ | ⟨env,vars,news,fs⟩
  · rfl
  · simp only
    rcases aTail lo fs (m / 1000) (ops.drop (m % 1000)) env ⟨vars,st ++ news,ext⟩ with _ | ⟨_,_⟩ <;> rfl
theorem qs_nil : aQs lo st fl [] env vars news fs = some (env,vars,news,fs):=id rfl
def nqC (lo : Lower) (st : List AO) (fl : List Nat) (rest : List ROp) (w : Option Nat) (op : IOp) (env vars : List AV) (news : List AO) (fs : List Nat) (r : Option (AV × List AO)) : Option (List AV × List AV × List AO × List Nat):=match r with
  | none => none
  | some (v,n1) => if fl.contains env.length && !n1.isEmpty then none else
        aQs lo st fl rest (env ++ [v]) (setW vars w v) (news ++ n1) (if fl.contains env.length then rIds vars env op ++ fs else fs)
theorem nq_out (h : fl.contains env.length = false) : nqC lo st fl rest w op env vars news fs (some (v,n1)) = aQs lo st fl rest (env ++ [v]) (setW vars w v) (news ++ n1) fs:=by
  simp only [nqC,h,Bool.false_and,Bool.false_eq_true,if_false]
theorem nq_in (h : fl.contains env.length = true) : nqC lo st fl rest w op env vars news fs (some (v,[])) = aQs lo st fl rest (env ++ [v]) (setW vars w v) news (rIds vars env op ++ fs):=by
  simp only [nqC,h,List.isEmpty_nil,Bool.not_true,Bool.and_false,Bool.false_eq_true,if_false,if_true,List.append_nil]
theorem qs_op : aQs lo st fl (⟨w,none,op⟩ :: rest) env vars news fs = nqC lo st fl rest w op env vars news fs (aQ lo vars env st (st.length + news.length) op):=by
  simp only [aQs,wantG,nqC]
  rcases aQ lo vars env st (st.length + news.length) op with _ | ⟨_,_⟩ <;> rfl
theorem qs_do {j : Nat} {b : Bool} (h : env.getD j .junk = .imm (.bool b)) : aQs lo st fl (⟨w,some (j,b),op⟩ :: rest) env vars news fs = nqC lo st fl rest w op env vars news fs (aQ lo vars env st (st.length + news.length) op):=by
  simp only [aQs,wantG,h,nqC]
  cases b <;> simp only [] <;> rcases aQ lo vars env st (st.length + news.length) op with _ | ⟨_,_⟩ <;> rfl
theorem qs_tf {j : Nat} (h : env.getD j .junk = .imm (.bool true)) : aQs lo st fl (⟨w,some (j,false),op⟩ :: rest) env vars news fs = aQs lo st fl rest (env ++ [.imm (.tup [])]) (setW vars w (.imm (.tup []))) news fs:=by
  simp only [aQs,wantG,h]
theorem ot_nil : aOpsT lo fs [] env s = some (env,s):=id rfl
def ntC (lo : Lower) (fs : List Nat) (rest : List ROp) (w : Option Nat) (env : List AV) (r : Option (AV × S)) : Option (List AV × S) :=
  match r with
  | some (v,s) => aOpsT lo fs rest (env ++ [v]) { s with vars:=setW s.vars w v }
  | none => none
theorem nt_some : ntC lo fs rest w env (some (v,⟨vars,st,ext⟩)) = aOpsT lo fs rest (env ++ [v]) ⟨setW vars w v,st,ext⟩:=id rfl
theorem ot_op (h : apartL (wIds vars env st op) fs = true) : aOpsT lo fs (⟨w,none,op⟩ :: rest) env ⟨vars,st,ext⟩ = ntC lo fs rest w env (aOp lo vars env ⟨vars,st,ext⟩ op):=by
  simp only [aOpsT,wantG,h,if_true,ntC]
  cases aOp lo vars env ⟨vars,st,ext⟩ op <;> rfl
def kpC (st : List AO) (is : List Nat) (r : Option D) : Option (AV × List AO):=match r with
  | some d => if isFrz st is || flatD d then some (.imm d,[]) else none
  | none => none
theorem kp_some {is : List Nat} (h : (isFrz st is || flatD d) = true) : kpC st is (some d) = some (.imm d,[]):=by simp only [kpC,h,if_true]
def kdC (lo : Lower) (f : FuncId) (st : List AO) (is : List Nat) (r : Option (List D)) : Option (AV × List AO):=match r with | none => none | some ds => kpC st is (callP lo f ds)
theorem kd_some {f : FuncId} {is : List Nat} : kdC lo f st is (some ds) = kpC st is (callP lo f ds):=id rfl
def kfC (lo : Lower) (st : List AO) (vs : List AV) (r : Option (FuncId × List AV × List AV)) : Option (AV × List AO):=match r with
  | none => none
  | some (f,a,b) => kdC lo f st (idsL (a ++ vs ++ b)) (deepL st (a ++ vs ++ b))
theorem kf_some {f : FuncId} {p q : List AV} : kfC lo st vs (some (f,p,q)) = kdC lo f st (idsL (p ++ vs ++ q)) (deepL st (p ++ vs ++ q)):=id rfl
theorem q_callP' {f : Opnd} {args : List Opnd} : aQ lo vars env st nid (.call .pure f args) = kfC lo st (opnds vars env args) (fnOf (opnd vars env f)):=by
  simp only [aQ,kfC,kdC,kpC]
  rcases fnOf (opnd vars env f) with _ | ⟨f,a,b⟩
  · rfl
  · simp only
    rcases deepL st (a ++ opnds vars env args ++ b) with _ | ds
    · rfl
    · simp only
      rcases callP lo f ds <;> rfl
def jpC (nid : Nat) (st : List AO) (is : List Nat) (r : Option (AV × List AO)) : Option (AV × List AO):=match r with
  | some r => if isFrz st is || (flatV r.1 && flatOL r.2) then some (ren (shiftM nid) r.1,r.2.map (renO (shiftM nid))) else none
  | none => none
theorem jp_some {is : List Nat} (h : (isFrz st is || (flatV v && flatOL n1)) = true) : jpC nid st is (some (v,n1)) = some (ren (shiftM nid) v,n1.map (renO (shiftM nid))):=by simp only [jpC,h,if_true]
def jdC (lo : Lower) (nid : Nat) (f : FuncId) (st : List AO) (is : List Nat) (r : Option (List D)) : Option (AV × List AO):=match r with | none => none | some ds => jpC nid st is (callI lo f ds)
theorem jd_some {f : FuncId} {is : List Nat} : jdC lo nid f st is (some ds) = jpC nid st is (callI lo f ds):=id rfl
def jfC (lo : Lower) (nid : Nat) (st : List AO) (vs : List AV) (r : Option (FuncId × List AV × List AV)) : Option (AV × List AO):=match r with
  | none => none
  | some (f,a,b) => jdC lo nid f st (idsL (a ++ vs ++ b)) (deepL st (a ++ vs ++ b))
theorem jf_some {f : FuncId} {p q : List AV} : jfC lo nid st vs (some (f,p,q)) = jdC lo nid f st (idsL (p ++ vs ++ q)) (deepL st (p ++ vs ++ q)):=id rfl
theorem q_callI' {f : Opnd} {args : List Opnd} : aQ lo vars env st nid (.call .imp f args) = jfC lo nid st (opnds vars env args) (fnOf (opnd vars env f)):=by
  simp only [aQ,jfC,jdC,jpC]
  rcases fnOf (opnd vars env f) with _ | ⟨f,a,b⟩
  · rfl
  · simp only
    rcases deepL st (a ++ opnds vars env args ++ b) with _ | ds
    · rfl
    · simp only
      rcases callI lo f ds <;> rfl
theorem dL_map : ∀ ds : List D,deepL st (ds.map .imm) = some ds
  | [] => by simp [deepL]
  | d :: ds => by simp [deepL,deep,dL_map ds]
theorem iL_map : ∀ ds : List D,idsL (ds.map .imm) = []
  | [] => by simp [idsL]
  | d :: ds => by simp [idsL,ids,iL_map ds]
theorem ds_map' : ∀ ds : List D,dsOf (ds.map .imm) = some ds:=dsOf_map'
def gkC (vs : List AV) (st : List AO) (l : List Nat) : List AV × List AO:=(renL (idx l) vs,pickSt (idx l) l st)
theorem gc_go {n : Nat} : gc n vs st = gkC vs st (keepIds n (idsL vs) st):=id rfl
theorem gk_eq {l : List Nat} : gkC vs st l = (renL (idx l) vs,pickSt (idx l) l st):=id rfl
def yeC (vars : List AV) (st : List AO) (r : Option (Ext × Bool)) : Option (AV × S):=match r with | some (e',b) => some (.imm (.bool b),⟨vars,st,some e'⟩) | none => none
theorem ye_some {e : Ext} {b : Bool} : yeC vars st (some (e,b)) = some (.imm (.bool b),⟨vars,st,some e⟩):=id rfl
def ydC (lo : Lower) (vars : List AV) (st : List AO) (e : Ext) (r : Option (List D)) : Option (AV × S):=match r with | some ds => yeC vars st (lo.round e ds) | none => none
theorem yd_some {e : Ext} : ydC lo vars st e (some ds) = yeC vars st (lo.round e ds):=id rfl
theorem op_yield {md : Mode} {f : Opnd} {args : List Opnd} {e : Ext} (h : opnd vars env f = .yield) : aOp lo vars env ⟨vars,st,some e⟩ (.call md f args) = ydC lo vars st e (dsOf (opnds vars env args)):=by
  simp only [aOp,aCall,h,ydC,yeC]
  cases dsOf (opnds vars env args) with
  | none => rfl
  | some ds => cases hr : lo.round e ds <;> rfl
theorem wl1 : wrp .i64 (0 + 1) = 1:=by decide
theorem wl2 : wrp .i64 (1 + 1) = 2:=by decide
theorem wl3 : wrp .i64 (2 + 1) = 3:=by decide
def rfE (r : Option (AV × List AO × Option Ext)) : Option (AExit × S):=match r with | some (_,_,some e) => some (e.pend.getD .normal,⟨e.vars,e.st,none⟩) | _ => none
theorem rfE_some {v : AV} {ps : List Nat} {a b : IR} {nb : Nat} {st2 : List AO} {pe : Option AExit} : rfE (some (v,st,some ⟨ps,a,b,vars,st2,nb,pe⟩)) = some (pe.getD .normal,⟨vars,st2,none⟩):=id rfl
def rfV (lo : Lower) (ps : List Nat) (a b : IR) (vars : List AV) (st : List AO) (nb : Nat) (v : AV) : Option (AExit × S):=match v with
  | .imm (.fn g x y) => rfE (lo.call g (x.map .imm ++ [.yield] ++ y.map .imm) [] (some ⟨ps,a,b,vars,st,nb,none⟩))
  | _ => none
theorem rfV_fn {ps : List Nat} {a b : IR} {nb : Nat} {g : FuncId} {x y : List D} : rfV lo ps a b vars st nb (.imm (.fn g x y)) = rfE (lo.call g (x.map .imm ++ [.yield] ++ y.map .imm) [] (some ⟨ps,a,b,vars,st,nb,none⟩)):=id rfl
theorem ac_rfunc {nb i : Nat} {ps : List Nat} {a b : IR} : aCode lo ⟨nb,false⟩ (.rfunc (.var i) ps a b) ⟨vars,st,none⟩ = rfV lo ps a b vars st nb (vars.getD i .junk):=by
  simp only [aCode,opnd,Bool.false_eq_true,Option.isSome_none,or_self,if_false,rfV]
  cases vars.getD i .junk with
  | imm d =>
    cases d with
    | fn g x y =>
      simp only [rfE]
      rcases lo.call g (x.map .imm ++ [.yield] ++ y.map .imm) [] (some ⟨ps,a,b,vars,st,nb,none⟩) with _ | ⟨_,_,_ | _⟩ <;> rfl
    | _ => rfl
  | _ => rfl
theorem call_go {E : Env} {n : Nat} {f : FuncId} {fn : IFn} {as : List AV} {c : IR} {r : List RV} {vars : List AV} (h : E.fn f = some fn) (h1 : fn.body = c) (h2 : fn.res = r) (h3 : decide (fn.np < as.length) = false) (h4 : as ++ List.replicate (fn.nv - as.length) .junk = vars) :
    (level E (n + 1)).call f as st ext = fin r (aCode (level E n) ⟨st.length,false⟩ c ⟨vars,st,ext⟩):=by
  simp only [level,h]
  rw [run_eq h3,h1,h2,h4]
def roB (e : Ext) (r : Option (AExit × S)) : Option (Ext × Bool):=match r with
  | some (x,s2) => some ({ e with vars:=(gc e.nb e.vars s2.st).1,st:=(gc e.nb e.vars s2.st).2,pend:=if x = .normal then none else some x },decide (x = .normal))
  | none => none
noncomputable def roA (lo : Lower) (e : Ext) (r : Option (AExit × S)) : Option (Ext × Bool):=match r with
  | some (.normal,s1) => roB e (aCode lo ⟨e.st.length,true⟩ e.body s1)
  | _ => none
theorem roB_n {ps : List Nat} {a b : IR} {nb : Nat} {vs0 : List AV} {st0 : List AO} : roB ⟨ps,a,b,vs0,st0,nb,none⟩ (some (.normal,⟨vars,st,ext⟩)) = some (⟨ps,a,b,(gc nb vs0 st).1,(gc nb vs0 st).2,nb,none⟩,true):=id rfl
theorem roB_r {ps : List Nat} {a b : IR} {nb : Nat} {vs0 : List AV} {st0 : List AO} : roB ⟨ps,a,b,vs0,st0,nb,none⟩ (some (.ret,⟨vars,st,ext⟩)) = some (⟨ps,a,b,(gc nb vs0 st).1,(gc nb vs0 st).2,nb,some .ret⟩,false):=id rfl
theorem roB_e {ps : List Nat} {a b : IR} {nb i : Nat} {vs0 : List AV} {st0 : List AO} : roB ⟨ps,a,b,vs0,st0,nb,none⟩ (some (.exit i,⟨vars,st,ext⟩)) = some (⟨ps,a,b,(gc nb vs0 st).1,(gc nb vs0 st).2,nb,some (.exit i)⟩,false):=id rfl
theorem roA_n {ps : List Nat} {a b : IR} {nb : Nat} {vs0 : List AV} {st0 : List AO} {s1 : S} : roA lo ⟨ps,a,b,vs0,st0,nb,none⟩ (some (.normal,s1)) = roB ⟨ps,a,b,vs0,st0,nb,none⟩ (aCode lo ⟨st0.length,true⟩ b s1):=id rfl
theorem round_go {E : Env} {n : Nat} {ps : List Nat} {a b : IR} {nb : Nat} (h : (ds.length == ps.length) = true) : (level E (n + 1)).round ⟨ps,a,b,vars,st,nb,none⟩ ds = roA (level E n) ⟨ps,a,b,vars,st,nb,none⟩ (aCode (level E n) ⟨st.length,true⟩ a ⟨setPs vars ps ds,st,none⟩):=by
  have h' : ds.length = ps.length:=by simpa using h
  simp only [level,runRound,h',ne_eq,not_true_eq_false,if_false,roA,roB]
  rcases aCode (level E n) ⟨st.length,true⟩ a ⟨setPs vars ps ds,st,none⟩ with _ | ⟨_ | _ | _,_⟩ <;> rfl
theorem sp_cons {p : Nat} {ps : List Nat} : setPs vars (p :: ps) (d :: ds) = setPs (vars.set p (.imm d)) ps ds:=id rfl
theorem sp_nil : setPs vars [] [] = vars:=id rfl
theorem cast0 : ((0 : Nat) : Int) = 0:=id rfl
end
theorem ct_nil {i : Nat} : ([] : List Nat).contains i = false:=id rfl
theorem ct_cons {a i : Nat} {l : List Nat} : (a :: l).contains i = ((i == a) || l.contains i):=List.contains_cons
attribute [go_sem] ct_nil ct_cons
attribute [go_sem] rIds wIds apartL Nat.add_zero Bool.false_eq_true rfE_some rfV_fn ac_rfunc roB_n roB_r roB_e roA_n sp_cons sp_nil Option.getD_some Option.getD_none ye_some yd_some op_yield wl1 wl2 wl3 Nat.zero_add Nat.le_refl List.take_of_length_le cast0 gc_go gk_eq drw_some drw_late tl_some ac_draw qs_nil nq_out nq_in qs_op qs_do qs_tf ot_nil nt_some ot_op kp_some kd_some kf_some q_callP' jp_some jd_some jf_some q_callI' dL_map iL_map ds_map'
end Go.Vm

/- Evaluating: calls that share blocks; copies. -/
namespace Go.Vm
open Go
section
variable {lo : Lower} {env vars vs : List AV} {st st2 : List AO} {ext : Option Ext} {f : FuncId} {l : List Nat} {n i j m : Nat} {v : AV} {p q : List AV}
def bkM (l : List Nat) (n : Nat) (j : Nat) : Option Nat:=if j < l.length then l[j]? else some (n + (j - l.length))
def bk2 (l : List Nat) (n j : Nat) (b : Bool) : Option Nat:=match b with | true => l[j]? | false => some (n + (j - l.length))
theorem bk_eq : bkM l n j = bk2 l n j (decide (j < l.length)):=by
  simp only [bkM,bk2]
  by_cases h : j < l.length <;> simp [h]
theorem bk_f : bk2 l n j false = some (n + (j - l.length)):=id rfl
def siC (m : Nat → Option Nat) (st2 st : List AO) (i : Nat) (o : Option Nat) : AO:=match o with | some j => renO m (st2.getD j .dead) | none => st.getD i .dead
theorem si_some {m : Nat → Option Nat} : siC m st2 st i (some j) = renO m (st2.getD j .dead):=id rfl
theorem si_none {m : Nat → Option Nat} : siC m st2 st i none = st.getD i .dead:=id rfl
def cuC (vars : List AV) (st : List AO) (l : List Nat) (r : Option (AV × List AO)) : Option (AV × S):=match r with
  | some (v,st2) => some (ren (bkM l st.length) v,⟨vars,(List.range st.length).map (fun i => siC (bkM l st.length) st2 st i (idx l i)) ++ (st2.drop l.length).map (renO (bkM l st.length)),none⟩)
  | none => none
theorem cu_some : cuC vars st l (some (v,st2)) = some (ren (bkM l st.length) v,⟨vars,(List.range st.length).map (fun i => siC (bkM l st.length) st2 st i (idx l i)) ++ (st2.drop l.length).map (renO (bkM l st.length)),none⟩):=id rfl
def csC (lo : Lower) (f : FuncId) (vars : List AV) (st : List AO) (all : List AV) (l : List Nat) (ok : Bool) : Option (AV × S):=match ok with
  | true => cuC vars st l (callS lo f (renL (idx l) all) (pickSt (idx l) l st))
  | false => none
theorem cs_true {all : List AV} : csC lo f vars st all l true = cuC vars st l (callS lo f (renL (idx l) all) (pickSt (idx l) l st)):=id rfl
def crC (lo : Lower) (vars : List AV) (st : List AO) (f : FuncId) (all : List AV) (l : List Nat) : Option (AV × S):=csC lo f vars st all l (l.all fun i => decide (i < st.length))
theorem cr_eq {all : List AV} : crC lo vars st f all l = csC lo f vars st all l (l.all fun i => decide (i < st.length)):=id rfl
def cwC (lo : Lower) (vars : List AV) (st : List AO) (vs : List AV) (r : Option (FuncId × List AV × List AV)) : Option (AV × S):=match r with
  | none => none
  | some (f,a,b) => crC lo vars st f (a ++ vs ++ b) (reach st 1000 [] (idsL (a ++ vs ++ b)))
theorem cw_some : cwC lo vars st vs (some (f,p,q)) = crC lo vars st f (p ++ vs ++ q) (reach st 1000 [] (idsL (p ++ vs ++ q))):=id rfl
theorem op_callS {fo : Opnd} {args : List Opnd} (h : (fnOf (opnd vars env fo)).isSome = true) : aOp lo vars env ⟨vars,st,none⟩ (.call .sh fo args) = cwC lo vars st (opnds vars env args) (fnOf (opnd vars env fo)):=by
  simp only [aOp,aCall]
  split
  · rename_i e; rw [e] at h; cases h
  · simp only [cwC]
    rcases fnOf (opnd vars env fo) with _ | ⟨f,a,b⟩
    · rfl
    · simp only [crC,Option.isSome_none,Bool.false_or]
      cases ha : (reach st 1000 [] (idsL (a ++ opnds vars env args ++ b))).all (fun i => decide (i < st.length))
      · simp only [Bool.not_false,if_true,csC]
      · simp only [Bool.not_true,Bool.false_eq_true,if_false,csC,cuC]
        rcases callS lo f (renL (idx (reach st 1000 [] (idsL (a ++ opnds vars env args ++ b)))) (a ++ opnds vars env args ++ b)) (pickSt (idx (reach st 1000 [] (idsL (a ++ opnds vars env args ++ b)))) (reach st 1000 [] (idsL (a ++ opnds vars env args ++ b))) st) with _ | ⟨v,st2⟩
        · rfl
        · rfl
theorem callS_go {E : Env} {n : Nat} {f : FuncId} {fn : IFn} {c : IR} {r : List RV} {vars : List AV} (h : E.fn f = some fn) (h1 : fn.body = c) (h2 : fn.res = r) (h3 : decide (fn.np < vs.length) = false) (h4 : vs ++ List.replicate (fn.nv - vs.length) .junk = vars) :
    callS (level E (n + 1)) f vs st = psC st.length (fin r (aCode (level E n) ⟨st.length,false⟩ c ⟨vars,st,none⟩)):=by
  rw [callS_eq h,run_eq h3,h1,h2,h4]
def coK (st : List AO) (vars : List AV) (ext : Option Ext) (id sz a n : Nat) (es : List (List D)) (o : Option AO) : Option (AV × S):=match o with
  | some (.arr sz1 old) => if sz1 = sz ∧ a + n ≤ old.length then some (.imm (.int .i64 (min es.length n : Nat)),⟨vars,st.set id (.arr sz (Vm.setRange old a (es.take (min es.length n)))),ext⟩) else none
  | some (.box cs) => if (a + n) * sz ≤ cs.length ∧ (es.take (min es.length n)).flatten.length = (min es.length n) * sz then some (.imm (.int .i64 (min es.length n : Nat)),⟨vars,st.set id (.box (Vm.setRange cs (a * sz) ((es.take (min es.length n)).flatten.map .imm))),ext⟩) else none
  | _ => none
def coC (st : List AO) (vars : List AV) (ext : Option Ext) (sz : Nat) (d : AV) (r : Option (Nat × List (List D))) : Option (AV × S):=match d,r with
  | .ref id sz1 a n,some (sz2,es) => if sz1 = sz ∧ (es = [] ∨ sz2 = sz) then coK st vars ext id sz a n es st[id]? else none
  | .imm .nil,some _ => some (.imm (.int .i64 0),⟨vars,st,ext⟩)
  | .e0 _,some _ => some (.imm (.int .i64 0),⟨vars,st,ext⟩)
  | _,_ => none
theorem op_copy {sz : Nat} {d x : Opnd} : aOp lo vars env ⟨vars,st,ext⟩ (.copy sz d x) = coC st vars ext sz (opnd vars env d) (srcOf st (opnd vars env x)):=by
  simp only [aOp,coC]
  cases opnd vars env d with
  | ref id sz1 a n =>
    rcases srcOf st (opnd vars env x) with _ | ⟨sz2,es⟩
    · rfl
    · simp only
      by_cases h : sz1 = sz ∧ (es = [] ∨ sz2 = sz)
      · simp only [h,and_self,if_true,coK]
        rcases st[id]? with _ | o
        · rfl
        · cases o <;> rfl
      · simp only [h,if_false]
  | imm d => cases d <;> rcases srcOf st (opnd vars env x) with _ | ⟨sz2,es⟩ <;> rfl
  | _ => rcases srcOf st (opnd vars env x) with _ | ⟨sz2,es⟩ <;> rfl
theorem co_ref {id sz a : Nat} {es : List (List D)} : coC st vars ext sz (.ref id sz a n) (some (sz,es)) = coK st vars ext id sz a n es st[id]?:=by simp [coC]
theorem co_ref0 {id sz a : Nat} : coC st vars ext sz (.ref id sz a n) (some (m,[])) = coK st vars ext id sz a n [] st[id]?:=by simp [coC]
theorem mf_none' {f : FuncId} {x y : List AV} {p : Option (List D)} : mfC f x y none p = .clo f x y:=id rfl
end
attribute [go_sem] mf_none' bk_eq bk_f si_some si_none cu_some cs_true cr_eq cw_some op_callS op_copy co_ref co_ref0 ps_some
end Go.Vm

/- Evaluating: far places of a list. -/
namespace Go.Vm
section
universe u
variable {α : Type u} {d : α}
theorem gd64 {x0 x1 x2 x3 x4 x5 x6 x7 x8 x9 x10 x11 x12 x13 x14 x15 x16 x17 x18 x19 x20 x21 x22 x23 x24 x25 x26 x27 x28 x29 x30 x31 x32 x33 x34 x35 x36 x37 x38 x39 x40 x41 x42 x43 x44 x45 x46 x47 x48 x49 x50 x51 x52 x53 x54 x55 x56 x57 x58 x59 x60 x61 x62 x63 x64 : α} {r : List α} : List.getD (x0 :: x1 :: x2 :: x3 :: x4 :: x5 :: x6 :: x7 :: x8 :: x9 :: x10 :: x11 :: x12 :: x13 :: x14 :: x15 :: x16 :: x17 :: x18 :: x19 :: x20 :: x21 :: x22 :: x23 :: x24 :: x25 :: x26 :: x27 :: x28 :: x29 :: x30 :: x31 :: x32 :: x33 :: x34 :: x35 :: x36 :: x37 :: x38 :: x39 :: x40 :: x41 :: x42 :: x43 :: x44 :: x45 :: x46 :: x47 :: x48 :: x49 :: x50 :: x51 :: x52 :: x53 :: x54 :: x55 :: x56 :: x57 :: x58 :: x59 :: x60 :: x61 :: x62 :: x63 :: x64 :: r) 64 d = x64:=id rfl
theorem gd65 {x0 x1 x2 x3 x4 x5 x6 x7 x8 x9 x10 x11 x12 x13 x14 x15 x16 x17 x18 x19 x20 x21 x22 x23 x24 x25 x26 x27 x28 x29 x30 x31 x32 x33 x34 x35 x36 x37 x38 x39 x40 x41 x42 x43 x44 x45 x46 x47 x48 x49 x50 x51 x52 x53 x54 x55 x56 x57 x58 x59 x60 x61 x62 x63 x64 x65 : α} {r : List α} : List.getD (x0 :: x1 :: x2 :: x3 :: x4 :: x5 :: x6 :: x7 :: x8 :: x9 :: x10 :: x11 :: x12 :: x13 :: x14 :: x15 :: x16 :: x17 :: x18 :: x19 :: x20 :: x21 :: x22 :: x23 :: x24 :: x25 :: x26 :: x27 :: x28 :: x29 :: x30 :: x31 :: x32 :: x33 :: x34 :: x35 :: x36 :: x37 :: x38 :: x39 :: x40 :: x41 :: x42 :: x43 :: x44 :: x45 :: x46 :: x47 :: x48 :: x49 :: x50 :: x51 :: x52 :: x53 :: x54 :: x55 :: x56 :: x57 :: x58 :: x59 :: x60 :: x61 :: x62 :: x63 :: x64 :: x65 :: r) 65 d = x65:=id rfl
theorem gd66 {x0 x1 x2 x3 x4 x5 x6 x7 x8 x9 x10 x11 x12 x13 x14 x15 x16 x17 x18 x19 x20 x21 x22 x23 x24 x25 x26 x27 x28 x29 x30 x31 x32 x33 x34 x35 x36 x37 x38 x39 x40 x41 x42 x43 x44 x45 x46 x47 x48 x49 x50 x51 x52 x53 x54 x55 x56 x57 x58 x59 x60 x61 x62 x63 x64 x65 x66 : α} {r : List α} : List.getD (x0 :: x1 :: x2 :: x3 :: x4 :: x5 :: x6 :: x7 :: x8 :: x9 :: x10 :: x11 :: x12 :: x13 :: x14 :: x15 :: x16 :: x17 :: x18 :: x19 :: x20 :: x21 :: x22 :: x23 :: x24 :: x25 :: x26 :: x27 :: x28 :: x29 :: x30 :: x31 :: x32 :: x33 :: x34 :: x35 :: x36 :: x37 :: x38 :: x39 :: x40 :: x41 :: x42 :: x43 :: x44 :: x45 :: x46 :: x47 :: x48 :: x49 :: x50 :: x51 :: x52 :: x53 :: x54 :: x55 :: x56 :: x57 :: x58 :: x59 :: x60 :: x61 :: x62 :: x63 :: x64 :: x65 :: x66 :: r) 66 d = x66:=id rfl
theorem gd67 {x0 x1 x2 x3 x4 x5 x6 x7 x8 x9 x10 x11 x12 x13 x14 x15 x16 x17 x18 x19 x20 x21 x22 x23 x24 x25 x26 x27 x28 x29 x30 x31 x32 x33 x34 x35 x36 x37 x38 x39 x40 x41 x42 x43 x44 x45 x46 x47 x48 x49 x50 x51 x52 x53 x54 x55 x56 x57 x58 x59 x60 x61 x62 x63 x64 x65 x66 x67 : α} {r : List α} : List.getD (x0 :: x1 :: x2 :: x3 :: x4 :: x5 :: x6 :: x7 :: x8 :: x9 :: x10 :: x11 :: x12 :: x13 :: x14 :: x15 :: x16 :: x17 :: x18 :: x19 :: x20 :: x21 :: x22 :: x23 :: x24 :: x25 :: x26 :: x27 :: x28 :: x29 :: x30 :: x31 :: x32 :: x33 :: x34 :: x35 :: x36 :: x37 :: x38 :: x39 :: x40 :: x41 :: x42 :: x43 :: x44 :: x45 :: x46 :: x47 :: x48 :: x49 :: x50 :: x51 :: x52 :: x53 :: x54 :: x55 :: x56 :: x57 :: x58 :: x59 :: x60 :: x61 :: x62 :: x63 :: x64 :: x65 :: x66 :: x67 :: r) 67 d = x67:=id rfl
theorem gd68 {x0 x1 x2 x3 x4 x5 x6 x7 x8 x9 x10 x11 x12 x13 x14 x15 x16 x17 x18 x19 x20 x21 x22 x23 x24 x25 x26 x27 x28 x29 x30 x31 x32 x33 x34 x35 x36 x37 x38 x39 x40 x41 x42 x43 x44 x45 x46 x47 x48 x49 x50 x51 x52 x53 x54 x55 x56 x57 x58 x59 x60 x61 x62 x63 x64 x65 x66 x67 x68 : α} {r : List α} : List.getD (x0 :: x1 :: x2 :: x3 :: x4 :: x5 :: x6 :: x7 :: x8 :: x9 :: x10 :: x11 :: x12 :: x13 :: x14 :: x15 :: x16 :: x17 :: x18 :: x19 :: x20 :: x21 :: x22 :: x23 :: x24 :: x25 :: x26 :: x27 :: x28 :: x29 :: x30 :: x31 :: x32 :: x33 :: x34 :: x35 :: x36 :: x37 :: x38 :: x39 :: x40 :: x41 :: x42 :: x43 :: x44 :: x45 :: x46 :: x47 :: x48 :: x49 :: x50 :: x51 :: x52 :: x53 :: x54 :: x55 :: x56 :: x57 :: x58 :: x59 :: x60 :: x61 :: x62 :: x63 :: x64 :: x65 :: x66 :: x67 :: x68 :: r) 68 d = x68:=id rfl
theorem gd69 {x0 x1 x2 x3 x4 x5 x6 x7 x8 x9 x10 x11 x12 x13 x14 x15 x16 x17 x18 x19 x20 x21 x22 x23 x24 x25 x26 x27 x28 x29 x30 x31 x32 x33 x34 x35 x36 x37 x38 x39 x40 x41 x42 x43 x44 x45 x46 x47 x48 x49 x50 x51 x52 x53 x54 x55 x56 x57 x58 x59 x60 x61 x62 x63 x64 x65 x66 x67 x68 x69 : α} {r : List α} : List.getD (x0 :: x1 :: x2 :: x3 :: x4 :: x5 :: x6 :: x7 :: x8 :: x9 :: x10 :: x11 :: x12 :: x13 :: x14 :: x15 :: x16 :: x17 :: x18 :: x19 :: x20 :: x21 :: x22 :: x23 :: x24 :: x25 :: x26 :: x27 :: x28 :: x29 :: x30 :: x31 :: x32 :: x33 :: x34 :: x35 :: x36 :: x37 :: x38 :: x39 :: x40 :: x41 :: x42 :: x43 :: x44 :: x45 :: x46 :: x47 :: x48 :: x49 :: x50 :: x51 :: x52 :: x53 :: x54 :: x55 :: x56 :: x57 :: x58 :: x59 :: x60 :: x61 :: x62 :: x63 :: x64 :: x65 :: x66 :: x67 :: x68 :: x69 :: r) 69 d = x69:=id rfl
theorem gd70 {x0 x1 x2 x3 x4 x5 x6 x7 x8 x9 x10 x11 x12 x13 x14 x15 x16 x17 x18 x19 x20 x21 x22 x23 x24 x25 x26 x27 x28 x29 x30 x31 x32 x33 x34 x35 x36 x37 x38 x39 x40 x41 x42 x43 x44 x45 x46 x47 x48 x49 x50 x51 x52 x53 x54 x55 x56 x57 x58 x59 x60 x61 x62 x63 x64 x65 x66 x67 x68 x69 x70 : α} {r : List α} : List.getD (x0 :: x1 :: x2 :: x3 :: x4 :: x5 :: x6 :: x7 :: x8 :: x9 :: x10 :: x11 :: x12 :: x13 :: x14 :: x15 :: x16 :: x17 :: x18 :: x19 :: x20 :: x21 :: x22 :: x23 :: x24 :: x25 :: x26 :: x27 :: x28 :: x29 :: x30 :: x31 :: x32 :: x33 :: x34 :: x35 :: x36 :: x37 :: x38 :: x39 :: x40 :: x41 :: x42 :: x43 :: x44 :: x45 :: x46 :: x47 :: x48 :: x49 :: x50 :: x51 :: x52 :: x53 :: x54 :: x55 :: x56 :: x57 :: x58 :: x59 :: x60 :: x61 :: x62 :: x63 :: x64 :: x65 :: x66 :: x67 :: x68 :: x69 :: x70 :: r) 70 d = x70:=id rfl
theorem gd71 {x0 x1 x2 x3 x4 x5 x6 x7 x8 x9 x10 x11 x12 x13 x14 x15 x16 x17 x18 x19 x20 x21 x22 x23 x24 x25 x26 x27 x28 x29 x30 x31 x32 x33 x34 x35 x36 x37 x38 x39 x40 x41 x42 x43 x44 x45 x46 x47 x48 x49 x50 x51 x52 x53 x54 x55 x56 x57 x58 x59 x60 x61 x62 x63 x64 x65 x66 x67 x68 x69 x70 x71 : α} {r : List α} : List.getD (x0 :: x1 :: x2 :: x3 :: x4 :: x5 :: x6 :: x7 :: x8 :: x9 :: x10 :: x11 :: x12 :: x13 :: x14 :: x15 :: x16 :: x17 :: x18 :: x19 :: x20 :: x21 :: x22 :: x23 :: x24 :: x25 :: x26 :: x27 :: x28 :: x29 :: x30 :: x31 :: x32 :: x33 :: x34 :: x35 :: x36 :: x37 :: x38 :: x39 :: x40 :: x41 :: x42 :: x43 :: x44 :: x45 :: x46 :: x47 :: x48 :: x49 :: x50 :: x51 :: x52 :: x53 :: x54 :: x55 :: x56 :: x57 :: x58 :: x59 :: x60 :: x61 :: x62 :: x63 :: x64 :: x65 :: x66 :: x67 :: x68 :: x69 :: x70 :: x71 :: r) 71 d = x71:=id rfl
theorem gd72 {x0 x1 x2 x3 x4 x5 x6 x7 x8 x9 x10 x11 x12 x13 x14 x15 x16 x17 x18 x19 x20 x21 x22 x23 x24 x25 x26 x27 x28 x29 x30 x31 x32 x33 x34 x35 x36 x37 x38 x39 x40 x41 x42 x43 x44 x45 x46 x47 x48 x49 x50 x51 x52 x53 x54 x55 x56 x57 x58 x59 x60 x61 x62 x63 x64 x65 x66 x67 x68 x69 x70 x71 x72 : α} {r : List α} : List.getD (x0 :: x1 :: x2 :: x3 :: x4 :: x5 :: x6 :: x7 :: x8 :: x9 :: x10 :: x11 :: x12 :: x13 :: x14 :: x15 :: x16 :: x17 :: x18 :: x19 :: x20 :: x21 :: x22 :: x23 :: x24 :: x25 :: x26 :: x27 :: x28 :: x29 :: x30 :: x31 :: x32 :: x33 :: x34 :: x35 :: x36 :: x37 :: x38 :: x39 :: x40 :: x41 :: x42 :: x43 :: x44 :: x45 :: x46 :: x47 :: x48 :: x49 :: x50 :: x51 :: x52 :: x53 :: x54 :: x55 :: x56 :: x57 :: x58 :: x59 :: x60 :: x61 :: x62 :: x63 :: x64 :: x65 :: x66 :: x67 :: x68 :: x69 :: x70 :: x71 :: x72 :: r) 72 d = x72:=id rfl
theorem gd73 {x0 x1 x2 x3 x4 x5 x6 x7 x8 x9 x10 x11 x12 x13 x14 x15 x16 x17 x18 x19 x20 x21 x22 x23 x24 x25 x26 x27 x28 x29 x30 x31 x32 x33 x34 x35 x36 x37 x38 x39 x40 x41 x42 x43 x44 x45 x46 x47 x48 x49 x50 x51 x52 x53 x54 x55 x56 x57 x58 x59 x60 x61 x62 x63 x64 x65 x66 x67 x68 x69 x70 x71 x72 x73 : α} {r : List α} : List.getD (x0 :: x1 :: x2 :: x3 :: x4 :: x5 :: x6 :: x7 :: x8 :: x9 :: x10 :: x11 :: x12 :: x13 :: x14 :: x15 :: x16 :: x17 :: x18 :: x19 :: x20 :: x21 :: x22 :: x23 :: x24 :: x25 :: x26 :: x27 :: x28 :: x29 :: x30 :: x31 :: x32 :: x33 :: x34 :: x35 :: x36 :: x37 :: x38 :: x39 :: x40 :: x41 :: x42 :: x43 :: x44 :: x45 :: x46 :: x47 :: x48 :: x49 :: x50 :: x51 :: x52 :: x53 :: x54 :: x55 :: x56 :: x57 :: x58 :: x59 :: x60 :: x61 :: x62 :: x63 :: x64 :: x65 :: x66 :: x67 :: x68 :: x69 :: x70 :: x71 :: x72 :: x73 :: r) 73 d = x73:=id rfl
end
attribute [go_sem] gd64 gd65 gd66 gd67 gd68 gd69 gd70 gd71 gd72 gd73
end Go.Vm

/- Evaluating: slices of slices and of arrays,variables written no more,calls told as plain data. -/
namespace Go.Vm
open Go
section
variable {lo : Lower} {env vars vs : List AV} {st news n1 : List AO} {ext : Option Ext} {ds : List D} {v : AV} {d : D} {sz id a n l h m nid off : Nat} {es : List (List D)} {cs : List D}
theorem op_boxi {x : Opnd} : aOp lo vars env ⟨vars,st,ext⟩ (.boxi x) = qC ⟨vars,st,ext⟩ (aQ lo vars env st st.length (.boxi x)):=_root_.id rfl
def bxiC (ok : Bool) (r : Option (List D)) : Option (AV × List AO):=match r with | some ds => (match ok with | true => some (.imm (.ptr ds),[]) | false => none) | none => none
theorem bxi_some : bxiC true (some ds) = some (.imm (.ptr ds),[]):=_root_.id rfl
theorem q_boxi {x : Opnd} : aQ lo vars env st nid (.boxi x) = bxiC ((cellsOf (opnd vars env x)).all single) (dsOf (cellsOf (opnd vars env x))):=by
  simp only [aQ,bxiC]
  cases dsOf (cellsOf (opnd vars env x)) with
  | none => rfl
  | some ds => cases (cellsOf (opnd vars env x)).all single <;> rfl
theorem sl_3 {lo' hi : Nat} (h1 : lo' ≤ hi) (h2 : hi ≤ m) (h3 : m ≤ n) (h0 : 1 ≤ m) : aSlice st none sz (.ref id sz a n) (some lo') (some hi) (some m) = some .junk:=by
  have h0' : m ≠ 0:=by omega
  simp [aSlice,h1,h2,h3,h0']
theorem sl_hi (hh : h ≤ n) : aSlice st none sz (.ref id sz a n) none (some h) none = some (.ref id sz a h):=by
  simp [aSlice,hh]
theorem sl_lo (hl : l ≤ n) : aSlice st none sz (.ref id sz a n) (some l) none none = some (.ref id sz (a + l) (n - l)):=by
  simp [aSlice,hl]
theorem sl_spare (h1 : l ≤ h) (h2 : spare st id sz a h = true) : aSlice st none sz (.ref id sz a n) (some l) (some h) none = some (.ref id sz (a + l) (h - l)):=by
  simp [aSlice,h1,h2]
theorem sl_shi (hh : h ≤ es.length) : aSlice st none sz (.imm (.sl sz es)) none (some h) none = some (.imm (.sl sz (es.take h))):=by
  simp [aSlice,hh]
theorem sl_slo (hl : l ≤ es.length) : aSlice st none sz (.imm (.sl sz es)) (some l) none none = some (.imm (.sl sz (es.drop l))):=by
  have : (es.drop l).take (es.length - l) = es.drop l:=List.take_of_length_le (by simp)
  simp [aSlice,hl,this]
def spC (sz a h : Nat) (r : Option AO) : Bool:=match r with | some (.arr sz' es) => decide (sz' = sz ∧ 0 < sz ∧ a + h ≤ es.length) | _ => false
theorem sp_eq : spare st id sz a h = spC sz a h st[id]?:=_root_.id rfl
theorem sp_arr (h1 : 0 < sz) (h2 : a + h ≤ es.length) : spC sz a h (some (.arr sz es)) = true:=by simp [spC,h1,h2]
def clrC (vars : List AV) (st : List AO) (ext : Option Ext) (z : List D) (id sz0 a n : Nat) (r : Option AO) : Option (AV × S):=match r with
  | some (.arr sz1 old) => if z.length = sz1 ∧ sz0 = sz1 ∧ a + n ≤ old.length then some (.imm (.tup []),⟨vars,st.set id (.arr sz1 (setRange old a (List.replicate n z))),ext⟩) else none
  | _ => none
def clxC (vars : List AV) (st : List AO) (ext : Option Ext) (z : List D) (v : AV) : Option (AV × S):=match v with
  | .ref id sz0 a n => clrC vars st ext z id sz0 a n st[id]?
  | .imm .nil => some (.imm (.tup []),⟨vars,st,ext⟩)
  | .e0 _ => some (.imm (.tup []),⟨vars,st,ext⟩)
  | _ => none
theorem op_clear {z : List D} {x : Opnd} : aOp lo vars env ⟨vars,st,ext⟩ (.clear z x) = clxC vars st ext z (opnd vars env x):=by
  simp only [aOp,clxC]
  cases opnd vars env x with
  | ref i a b c => simp only [clrC]; rcases st[i]? with _ | (_ | _ | _ | _ | _ | _ | _) <;> rfl
  | imm d => cases d <;> rfl
  | _ => rfl
theorem clx_ref {z : List D} : clxC vars st ext z (.ref id sz a n) = clrC vars st ext z id sz a n st[id]?:=_root_.id rfl
theorem clr_arr {z : List D} (h1 : z.length = sz) (h2 : a + n ≤ es.length) : clrC vars st ext z id sz a n (some (.arr sz es)) = some (.imm (.tup []),⟨vars,st.set id (.arr sz (setRange es a (List.replicate n z))),ext⟩):=by simp [clrC,h1,h2]
theorem ar_rest' {bytes : Nat} {old : List (List D)} (h2 : n ≤ old.length) (h : (n + es.length) * (bytes + 1) ≤ 70368744177664) : arC nid sz bytes id n sz es (some (.arr sz old)) = some (.ref nid sz 0 (n + es.length),some id,[.arr sz (old.take n ++ es ++ restE sz old (n + es.length))]):=ar_rest h2 h
theorem sa_imm {k : Nat} (h1 : h ≤ k) (h2 : h * sz ≤ cs.length) : aSlice st (some k) sz (.imm (.ptr cs)) none (some h) none = some (.imm (.sl sz (chunks sz h cs))):=by
  simp [aSlice,h1,h2]
theorem ia_arrN {i k : Nat} (h : i < k) : aIaddr (some k) sz (.ptr id off) (i : Int) = some (.ptr id (off + i * sz)):=by
  rw [ia_arr (by omega) (by omega)]; rfl
theorem ia_arrIN {i k : Nat} (h : i < k) : aIaddr (some k) sz (.imm (.ptr cs)) (i : Int) = some (.imm (.ptr (cs.drop (i * sz)))):=by
  rw [ia_arrI (by omega) (by omega)]; rfl
theorem ld_drop {i : Nat} : aLoad st false 1 (.imm (.ptr (cs.drop i))) = (cs[i]?).map .imm:=by
  by_cases h : i < cs.length
  · have h2 : 1 ≤ cs.length - i:=by omega
    simp [aLoad,h2]
  · have h2 : ¬ 1 ≤ cs.length - i:=by omega
    simp [aLoad,h2,show cs[i]? = none from List.getElem?_eq_none (by omega)]
def sbC (id sz k off h : Nat) (r : Option AO) : Option AV:=match r with
  | some (.box xs) => if off % sz = 0 ∧ off + k * sz = xs.length then some (.ref id sz (off / sz) h) else none
  | some (.fbox xs) => if off % sz = 0 ∧ off + k * sz = xs.length then some (.ref id sz (off / sz) h) else none
  | _ => none
theorem sa_hi {k : Nat} (hk : h ≤ k) : aSlice st (some k) sz (.ptr id off) none (some h) none = sbC id sz k off h st[id]?:=by
  simp only [aSlice,Option.getD_some,Option.getD_none,Nat.zero_le,hk,and_self,if_true,rdBox,sbC]
  rcases st[id]? with _ | (_ | xs | xs | _ | _ | _ | _) <;> simp
theorem sa_all {k : Nat} : aSlice st (some k) sz (.ptr id off) none none none = sbC id sz k off k st[id]?:=by
  simp only [aSlice,Option.getD_none,Nat.zero_le,Nat.le_refl,and_self,if_true,rdBox,sbC]
  rcases st[id]? with _ | (_ | xs | xs | _ | _ | _ | _) <;> simp
theorem sb_box {k : Nat} {xs : List AV} (h1 : off % sz = 0) (h2 : off + k * sz = xs.length) : sbC id sz k off h (some (.box xs)) = some (.ref id sz (off / sz) h):=by simp [sbC,h1,h2]
theorem ck_box {xs : List AV} (h0 : es.length ≤ n) (h1 : (a + n) * sz ≤ xs.length) (h2 : es.flatten.length = es.length * sz) :
    coK st vars ext id sz a n es (some (.box xs)) = some (.imm (.int .i64 (es.length : Nat)),⟨vars,st.set id (.box (Vm.setRange xs (a * sz) (es.flatten.map .imm))),ext⟩):=by
  simp [coK,Nat.min_eq_left h0,h1,h2]
def sxC (sz lw n : Nat) (r : Option (List D)) : Option (Nat × List (List D)):=match r with | some ds => if (lw + n) * sz ≤ ds.length then some (sz,chunks sz n (ds.drop (lw * sz))) else none | none => none
theorem sr_box {lw : Nat} {xs : List AV} : srC sz lw n (some (.box xs)) = sxC sz lw n (dsOf xs):=_root_.id rfl
theorem sx_some {lw : Nat} (h : (lw + n) * sz ≤ ds.length) : sxC sz lw n (some ds) = some (sz,chunks sz n (ds.drop (lw * sz))):=by simp [sxC,h]
theorem fll_nil : flatDLL [] = true:=_root_.id rfl
theorem fll_cons {x : List D} {r : List (List D)} : flatDLL (x :: r) = (flatDL x && flatDLL r):=_root_.id rfl
def zpC (st : List AO) (is : List Nat) (r : Option (AV × List AO)) : Option (AV × List AO):=match r with
  | some r => if isFrz st is || (flatV r.1 && flatOL r.2) then (match deep r.2 r.1 with | some d => some (.imm d,[]) | none => none) else none
  | none => none
def zrC (r : Option D) : Option (AV × List AO):=match r with | some d => some (.imm d,[]) | none => none
theorem zr_some : zrC (some d) = some (.imm d,[]):=_root_.id rfl
theorem zp_some {is : List Nat} (h : (isFrz st is || (flatV v && flatOL n1)) = true) : zpC st is (some (v,n1)) = zrC (deep n1 v):=by simp only [zpC,h,if_true,zrC]
def zdC (lo : Lower) (f : FuncId) (st : List AO) (is : List Nat) (r : Option (List D)) : Option (AV × List AO):=match r with | none => none | some ds => zpC st is (callI lo f ds)
theorem zd_some {f : FuncId} {is : List Nat} : zdC lo f st is (some ds) = zpC st is (callI lo f ds):=_root_.id rfl
def zfC (lo : Lower) (st : List AO) (vs : List AV) (r : Option (FuncId × List AV × List AV)) : Option (AV × List AO):=match r with
  | none => none
  | some (f,a,b) => zdC lo f st (idsL (a ++ vs ++ b)) (deepL st (a ++ vs ++ b))
theorem zf_some {f : FuncId} {p q : List AV} : zfC lo st vs (some (f,p,q)) = zdC lo f st (idsL (p ++ vs ++ q)) (deepL st (p ++ vs ++ q)):=_root_.id rfl
theorem q_callF' {f : Opnd} {args : List Opnd} : aQ lo vars env st nid (.call .fz f args) = zfC lo st (opnds vars env args) (fnOf (opnd vars env f)):=by
  simp only [aQ,zfC,zdC,zpC]
  rcases fnOf (opnd vars env f) with _ | ⟨f,a,b⟩
  · rfl
  · simp only
    rcases deepL st (a ++ opnds vars env args ++ b) with _ | ds
    · rfl
    · simp only
      rcases callI lo f ds <;> rfl
end
theorem nc1 : ((1 : Nat) : Int) = 1:=rfl
theorem nc2 : ((2 : Nat) : Int) = 2:=rfl
theorem nc3 : ((3 : Nat) : Int) = 3:=rfl
theorem nc4 : ((4 : Nat) : Int) = 4:=rfl
theorem nc5 : ((5 : Nat) : Int) = 5:=rfl
theorem nc6 : ((6 : Nat) : Int) = 6:=rfl
theorem nc7 : ((7 : Nat) : Int) = 7:=rfl
theorem nc8 : ((8 : Nat) : Int) = 8:=rfl
theorem nc11 : ((11 : Nat) : Int) = 11:=rfl
theorem bin_and {k : IntKind} {x y : Int} : aBin .and (.imm (.int k x)) (.imm (.int k y)) = some (.imm (.int k (wrp k (BitVec.ofInt k.bits x &&& BitVec.ofInt k.bits y).toNat))):=by simp [aBin,binI]
theorem bin_andNot {k : IntKind} {x y : Int} : aBin .andNot (.imm (.int k x)) (.imm (.int k y)) = some (.imm (.int k (wrp k (BitVec.ofInt k.bits x &&& ~~~BitVec.ofInt k.bits y).toNat))):=by simp [aBin,binI]
theorem bin_xor {k : IntKind} {x y : Int} : aBin .xor (.imm (.int k x)) (.imm (.int k y)) = some (.imm (.int k (wrp k (BitVec.ofInt k.bits x ^^^ BitVec.ofInt k.bits y).toNat))):=by simp [aBin,binI]
theorem bin_or {k : IntKind} {x y : Int} : aBin .or (.imm (.int k x)) (.imm (.int k y)) = some (.imm (.int k (wrp k (BitVec.ofInt k.bits x ||| BitVec.ofInt k.bits y).toNat))):=by simp [aBin,binI]
def lk2 (z : D) (k : Int) (o : Option AO) : Option (AV × List AO):=match o with
  | some (.imap es) => some (.imm ((lookI es k).getD z),[])
  | _ => none
theorem lk_map {st : List AO} {z : D} {id : Nat} {k : Int} : lkC st z (.map id) (some k) = lk2 z k st[id]?:=by
  first
  | (simp only [lkC,lk2]; done)
  | (simp only [lkC,lk2]
     rcases st[id]? with _ | o
     · rfl
     · cases o <;> rfl)
theorem lk_imap {z : D} {k : Int} {es : List (Int × D)} : lk2 z k (some (.imap es)) = some (.imm ((lookI es k).getD z),[]):=_root_.id rfl
def muC (vars : List AV) (ext : Option Ext) (st : List AO) (id : Nat) (k : Int) (v : D) (o : Option AO) : Option (AV × S):=match o with
  | some (.imap es) => some (.junk,⟨vars,st.set id (.imap (mapSet es k v)),ext⟩)
  | _ => none
def muF (vars : List AV) (ext : Option Ext) (st : List AO) (m : AV) (k : Option Int) (v : AV) : Option (AV × S):=match m,k,v with
  | .map id,some k,.imm v => muC vars ext st id k v st[id]?
  | _,_,_ => none
theorem mu_go {vars : List AV} {ext : Option Ext} {st : List AO} {id : Nat} {k : Int} {d : D} : muF vars ext st (.map id) (some k) (.imm d) = muC vars ext st id k d st[id]?:=_root_.id rfl
theorem op_mapup' {lo : Lower} {vars env : List AV} {st : List AO} {ext : Option Ext} {m k v : Opnd} :
    aOp lo vars env ⟨vars,st,ext⟩ (.mapup m k v) = muF vars ext st (opnd vars env m) (keyI (opnd vars env k)) (opnd vars env v):=by
  simp only [aOp,muF,muC]
  rcases opnd vars env m <;> rcases keyI (opnd vars env k) with _ | k' <;> rcases opnd vars env v <;> simp only <;> split <;> simp_all
theorem mu_imap {vars : List AV} {st : List AO} {ext : Option Ext} {id : Nat} {k : Int} {d : D} {es : List (Int × D)} : muC vars ext st id k d (some (.imap es)) = some (.junk,⟨vars,st.set id (.imap (mapSet es k d)),ext⟩):=_root_.id rfl
attribute [go_sem 900] ar_rest' sl_spare
attribute [go_sem] sl_3 sp_eq sp_arr op_clear clx_ref clr_arr
theorem wa3 : wrp .i64 (3 + 1) = 4:=by decide
theorem wa4 : wrp .i64 (4 + 1) = 5:=by decide
theorem wa5 : wrp .i64 (5 + 1) = 6:=by decide
theorem wa6 : wrp .i64 (6 + 1) = 7:=by decide
theorem wa7 : wrp .i64 (7 + 1) = 8:=by decide
attribute [go_sem] wa3 wa4 wa5 wa6 wa7
attribute [go_sem] lk_map lk_imap op_mapup' mu_go mu_imap nc11 bin_and bin_andNot bin_xor bin_or nc1 nc2 nc3 nc4 nc5 nc6 nc7 nc8 fll_nil fll_cons sr_box sx_some ck_box sa_hi sa_all sb_box zr_some ia_arrN ia_arrIN ld_drop Nat.mul_one mk_cap op_boxi bxi_some q_boxi sl_hi sl_lo sl_shi sl_slo sa_imm zp_some zd_some zf_some q_callF' rest_drop List.length_take List.length_drop
end Go.Vm

/- Chapter 04: what slices.Insert on numbers does with one number: an own list is used up. -/
namespace Go.Vm
def insPrim (args : List AV) (st : List AO) : Option (AV × List AO):=match args with
  | [.ref id sz lw n,.imm (.int k i),.ref id2 sz2 lw2 n2] => match st[id]?,st[id2]? with
    | some (.arr sz' es),some (.arr sz2' [[d]]) => if (sz = 1 ∧ sz' = 1 ∧ lw = 0 ∧ k = .i64) ∧ (sz2 = 1 ∧ sz2' = 1 ∧ lw2 = 0 ∧ n2 = 1) ∧ id ≠ id2 ∧ (0 ≤ i ∧ i ≤ n ∧ n = es.length ∧ n < 1000000) then
      some (.ref st.length 1 0 (n + 1),st.set id .dead ++ [.arr 1 (es.take i.toNat ++ [d] :: es.drop i.toNat)]) else none
    | _,_ => none
  | _ => none
end Go.Vm
namespace Go.Vm
def rfOk (b : Int) : Bool:=decide (b % 4294967296 / 8388608 % 256 ≠ 255) && decide (b % 4294967296 ≠ 2147483648)
def rfPrim (args : List AV) (st : List AO) : Option (AV × List AO):=match args with
  | [.imm (.int k b)] => if k = .u64 then some (.imm (.bool (rfOk b)),st) else none
  | _ => none
end Go.Vm

/- The functions of the program: the table; how each is entered. -/
set_option maxRecDepth 100000
namespace Go.Vm.P4D
open Go Go.Vm
def fnT : FuncId → Option IFn
  | 3 => some ir3
  | 7 => some ir7
  | 8 => some ir8
  | 9 => some ir9
  | 10 => some ir10
  | 11 => some ir11
  | 12 => some ir12
  | 13 => some ir13
  | 14 => some ir14
  | 15 => some ir15
  | 16 => some ir16
  | 17 => some ir17
  | 18 => some ir18
  | 19 => some ir19
  | 20 => some ir20
  | 21 => some ir21
  | 22 => some ir22
  | 23 => some ir23
  | 24 => some ir24
  | 25 => some ir25
  | 26 => some ir26
  | 32 => some ir32
  | 34 => some ir34
  | 36 => some ir36
  | 40 => some ir40
  | 43 => some ir43
  | 44 => some ir44
  | 45 => some ir45
  | 46 => some ir46
  | 47 => some ir47
  | 48 => some ir48
  | 49 => some ir49
  | 50 => some ir50
  | 51 => some ir51
  | 52 => some ir52
  | 53 => some ir53
  | 54 => some ir54
  | 55 => some ir55
  | 56 => some ir56
  | 57 => some ir57
  | 58 => some ir58
  | 59 => some ir59
  | 60 => some ir60
  | 61 => some ir61
  | 62 => some ir62
  | 63 => some ir63
  | 64 => some ir64
  | 65 => some ir65
  | 66 => some ir66
  | 67 => some ir67
  | 68 => some ir68
  | 69 => some ir69
  | 70 => some ir70
  | 71 => some ir71
  | 72 => some ir72
  | 73 => some ir73
  | 74 => some ir74
  | 75 => some ir75
  | 76 => some ir76
  | 77 => some ir77
  | 78 => some ir78
  | 79 => some ir79
  | 80 => some ir80
  | 81 => some ir81
  | 82 => some ir82
  | 84 => some ir84
  | 85 => some ir85
  | 86 => some ir86
  | 87 => some ir87
  | 89 => some ir89
  | 90 => some ir90
  | 91 => some ir91
  | 92 => some ir92
  | 93 => some ir93
  | 94 => some ir94
  | 95 => some ir95
  | 96 => some ir96
  | 97 => some ir97
  | 100 => some ir100
  | 101 => some ir101
  | 103 => some ir103
  | 128 => some ir128
  | 129 => some ir129
  | 130 => some ir130
  | 131 => some ir131
  | _ => none
def E : Env:={ fn:=fnT,prim:=fun f => if f = 88 then some insPrim else if f = 102 then some rfPrim else none }
abbrev kindsD : List D:=[.str ⟨#[98,111,111,108]⟩,.int .i64 1,.bool false,.bool false,.str ⟨#[117,56]⟩,.int .i64 8,.bool true,.bool false,.str ⟨#[117,49,54]⟩,.int .i64 16,.bool true,.bool false,.str ⟨#[117,51,50]⟩,.int .i64 32,.bool true,.bool false,.str ⟨#[117,54,52]⟩,.int .i64 64,.bool true,.bool false,.str ⟨#[105,56]⟩,.int .i64 8,.bool true,.bool true,.str ⟨#[105,49,54]⟩,.int .i64 16,.bool true,.bool true,.str ⟨#[105,51,50]⟩,.int .i64 32,.bool true,.bool true,.str ⟨#[105,54,52]⟩,.int .i64 64,.bool true,.bool true,.str ⟨#[102,51,50]⟩,.int .i64 32,.bool false,.bool false,.str ⟨#[99,54,52]⟩,.int .i64 64,.bool false,.bool false]
abbrev boundsD : List D:=[.int .i64 0,.fn 128 [] [],.int .i64 1,.fn 129 [] [],.int .i64 2,.fn 131 [] []]
def glob : Nat → Option (List D):=fun g => if g = 0 then some boundsD else if g = 1 then some kindsD else none
theorem e3 : E.fn 3 = some ir3:=rfl
theorem p3 {n : Nat} {x0 x1 x2 : D} : callP (level E (n + 1)) 3 [x0,x1,x2] = pdC (fin [.v 3] (aCode (level E n) ⟨0,false⟩ c3 ⟨[.imm x0,.imm x1,.imm x2,.junk,.junk,.junk,.junk,.junk,.junk,.junk,.junk,.junk,.junk,.junk,.junk,.junk,.junk,.junk,.junk,.junk,.junk,.junk,.junk,.junk,.junk,.junk,.junk,.junk,.junk,.junk,.junk,.junk,.junk,.junk,.junk,.junk,.junk,.junk,.junk,.junk,.junk,.junk,.junk,.junk,.junk,.junk,.junk,.junk,.junk,.junk,.junk,.junk,.junk,.junk,.junk,.junk,.junk,.junk,.junk,.junk,.junk,.junk,.junk,.junk],[],none⟩)):=callP_go e3 rfl rfl rfl rfl
theorem e7 : E.fn 7 = some ir7:=rfl
theorem p7 {n : Nat} {x0 : D} : callP (level E (n + 1)) 7 [x0] = pdC (fin [.v 1] (aCode (level E n) ⟨0,false⟩ c7 ⟨[.imm x0,.junk,.junk,.junk,.junk,.junk],[],none⟩)):=callP_go e7 rfl rfl rfl rfl
theorem e8 : E.fn 8 = some ir8:=rfl
theorem p8 {n : Nat} {x0 : D} : callP (level E (n + 1)) 8 [x0] = pdC (fin [.v 1] (aCode (level E n) ⟨0,false⟩ c8 ⟨[.imm x0,.junk,.junk,.junk,.junk],[],none⟩)):=callP_go e8 rfl rfl rfl rfl
theorem e9 : E.fn 9 = some ir9:=rfl
theorem p9 {n : Nat} : callP (level E (n + 1)) 9 [] = pdC (fin [.v 0] (aCode (level E n) ⟨0,false⟩ c9 ⟨[.junk,.junk,.junk,.junk,.junk,.junk,.junk,.junk,.junk,.junk,.junk,.junk,.junk,.junk,.junk,.junk,.junk,.junk,.junk,.junk,.junk,.junk,.junk,.junk,.junk,.junk,.junk,.junk,.junk,.junk,.junk,.junk],[],none⟩)):=callP_go e9 rfl rfl rfl rfl
theorem e10 : E.fn 10 = some ir10:=rfl
theorem p10 {n : Nat} {x0 : D} : callP (level E (n + 1)) 10 [x0] = pdC (fin [.v 1,.v 2] (aCode (level E n) ⟨0,false⟩ c10 ⟨[.imm x0,.junk,.junk,.junk,.junk,.junk],[],none⟩)):=callP_go e10 rfl rfl rfl rfl
theorem e11 : E.fn 11 = some ir11:=rfl
theorem p11 {n : Nat} {x0 : D} : callP (level E (n + 1)) 11 [x0] = pdC (fin [.cell 1 true 4] (aCode (level E n) ⟨0,false⟩ c11 ⟨[.imm x0,.junk,.junk],[],none⟩)):=callP_go e11 rfl rfl rfl rfl
theorem e12 : E.fn 12 = some ir12:=rfl
theorem p12 {n : Nat} {x0 : D} : callP (level E (n + 1)) 12 [x0] = pdC (fin [.cell 1 true 4,.v 2] (aCode (level E n) ⟨0,false⟩ c12 ⟨[.imm x0,.junk,.junk,.junk,.junk,.junk,.junk,.junk,.junk,.junk,.junk,.junk,.junk,.junk,.junk,.junk,.junk,.junk,.junk,.junk,.junk,.junk,.junk,.junk,.junk,.junk,.junk,.junk],[],none⟩)):=callP_go e12 rfl rfl rfl rfl
theorem e13 : E.fn 13 = some ir13:=rfl
theorem p13 {n : Nat} {x0 : D} : callP (level E (n + 1)) 13 [x0] = pdC (fin [.cell 1 true 4,.v 2] (aCode (level E n) ⟨0,false⟩ c13 ⟨[.imm x0,.junk,.junk,.junk,.junk,.junk,.junk],[],none⟩)):=callP_go e13 rfl rfl rfl rfl
theorem e14 : E.fn 14 = some ir14:=rfl
theorem p14 {n : Nat} {x0 x1 : D} : callP (level E (n + 1)) 14 [x0,x1] = pdC (fin [.cell 2 false 1,.cell 3 false 1] (aCode (level E n) ⟨0,false⟩ c14 ⟨[.imm x0,.imm x1,.junk,.junk,.junk,.junk,.junk,.junk,.junk,.junk,.junk,.junk,.junk,.junk,.junk,.junk,.junk,.junk,.junk,.junk,.junk,.junk],[],none⟩)):=callP_go e14 rfl rfl rfl rfl
theorem e15 : E.fn 15 = some ir15:=rfl
theorem p15 {n : Nat} {x0 : D} : callP (level E (n + 1)) 15 [x0] = pdC (fin [.v 1,.v 2] (aCode (level E n) ⟨0,false⟩ c15 ⟨[.imm x0,.junk,.junk,.junk,.junk,.junk,.junk,.junk,.junk,.junk,.junk,.junk],[],none⟩)):=callP_go e15 rfl rfl rfl rfl
theorem e16 : E.fn 16 = some ir16:=rfl
theorem p16 {n : Nat} {x0 x1 : D} : callP (level E (n + 1)) 16 [x0,x1] = pdC (fin [.v 2] (aCode (level E n) ⟨0,false⟩ c16 ⟨[.imm x0,.imm x1,.junk,.junk,.junk],[],none⟩)):=callP_go e16 rfl rfl rfl rfl
theorem e17 : E.fn 17 = some ir17:=rfl
theorem p17 {n : Nat} {x0 : D} : callP (level E (n + 1)) 17 [x0] = pdC (fin [.v 1] (aCode (level E n) ⟨0,false⟩ c17 ⟨[.imm x0,.junk,.junk,.junk,.junk],[],none⟩)):=callP_go e17 rfl rfl rfl rfl
theorem e18 : E.fn 18 = some ir18:=rfl
theorem p18 {n : Nat} {x0 x1 x2 : D} : callP (level E (n + 1)) 18 [x0,x1,x2] = pdC (fin [.cell 3 true 4,.v 4] (aCode (level E n) ⟨0,false⟩ c18 ⟨[.imm x0,.imm x1,.imm x2,.junk,.junk,.junk,.junk,.junk,.junk,.junk,.junk],[],none⟩)):=callP_go e18 rfl rfl rfl rfl
theorem e19 : E.fn 19 = some ir19:=rfl
theorem p19 {n : Nat} {x0 x1 : D} : callP (level E (n + 1)) 19 [x0,x1] = pdC (fin [.cell 2 true 4,.v 3] (aCode (level E n) ⟨0,false⟩ c19 ⟨[.imm x0,.imm x1,.junk,.junk,.junk,.junk,.junk,.junk],[],none⟩)):=callP_go e19 rfl rfl rfl rfl
theorem e20 : E.fn 20 = some ir20:=rfl
theorem p20 {n : Nat} {x0 : D} : callP (level E (n + 1)) 20 [x0] = pdC (fin [.v 1] (aCode (level E n) ⟨0,false⟩ c20 ⟨[.imm x0,.junk],[],none⟩)):=callP_go e20 rfl rfl rfl rfl
theorem e21 : E.fn 21 = some ir21:=rfl
theorem p21 {n : Nat} {x0 x1 : D} : callP (level E (n + 1)) 21 [x0,x1] = pdC (fin [.v 2] (aCode (level E n) ⟨0,false⟩ c21 ⟨[.imm x0,.imm x1,.junk,.junk,.junk,.junk],[],none⟩)):=callP_go e21 rfl rfl rfl rfl
theorem e22 : E.fn 22 = some ir22:=rfl
theorem p22 {n : Nat} {x0 x1 x2 x3 : D} : callP (level E (n + 1)) 22 [x0,x1,x2,x3] = pdC (fin [.cell 4 true 2,.v 5] (aCode (level E n) ⟨0,false⟩ c22 ⟨[.imm x0,.imm x1,.imm x2,.imm x3,.junk,.junk,.junk,.junk,.junk,.junk,.junk,.junk,.junk,.junk,.junk,.junk,.junk,.junk],[],none⟩)):=callP_go e22 rfl rfl rfl rfl
theorem e23 : E.fn 23 = some ir23:=rfl
theorem e24 : E.fn 24 = some ir24:=rfl
theorem p24 {n : Nat} {x0 x1 : D} : callP (level E (n + 1)) 24 [x0,x1] = pdC (fin [.cell 2 true 2,.v 3] (aCode (level E n) ⟨0,false⟩ c24 ⟨[.imm x0,.imm x1,.junk,.junk,.junk,.junk,.junk],[],none⟩)):=callP_go e24 rfl rfl rfl rfl
theorem e25 : E.fn 25 = some ir25:=rfl
theorem p25 {n : Nat} {x0 x1 : D} : callP (level E (n + 1)) 25 [x0,x1] = pdC (fin [.v 2,.v 3] (aCode (level E n) ⟨0,false⟩ c25 ⟨[.imm x0,.imm x1,.junk,.junk,.junk,.junk],[],none⟩)):=callP_go e25 rfl rfl rfl rfl
theorem e26 : E.fn 26 = some ir26:=rfl
theorem p26 {n : Nat} {x0 x1 : D} : callP (level E (n + 1)) 26 [x0,x1] = pdC (fin [.v 2,.v 3] (aCode (level E n) ⟨0,false⟩ c26 ⟨[.imm x0,.imm x1,.junk,.junk,.junk,.junk,.junk,.junk,.junk,.junk],[],none⟩)):=callP_go e26 rfl rfl rfl rfl
theorem e32 : E.fn 32 = some ir32:=rfl
theorem p32 {n : Nat} {x0 x1 : D} : callP (level E (n + 1)) 32 [x0,x1] = pdC (fin [.v 2] (aCode (level E n) ⟨0,false⟩ c32 ⟨[.imm x0,.imm x1,.junk,.junk,.junk,.junk,.junk],[],none⟩)):=callP_go e32 rfl rfl rfl rfl
theorem e34 : E.fn 34 = some ir34:=rfl
theorem p34 {n : Nat} {x0 : D} : callP (level E (n + 1)) 34 [x0] = pdC (fin [.v 1,.v 2] (aCode (level E n) ⟨0,false⟩ c34 ⟨[.imm x0,.junk,.junk,.junk,.junk,.junk,.junk,.junk,.junk,.junk,.junk],[],none⟩)):=callP_go e34 rfl rfl rfl rfl
theorem e36 : E.fn 36 = some ir36:=rfl
theorem p36 {n : Nat} {x0 x1 : D} : callP (level E (n + 1)) 36 [x0,x1] = pdC (fin [.v 2,.v 3] (aCode (level E n) ⟨0,false⟩ c36 ⟨[.imm x0,.imm x1,.junk,.junk,.junk,.junk,.junk],[],none⟩)):=callP_go e36 rfl rfl rfl rfl
theorem e40 : E.fn 40 = some ir40:=rfl
theorem p40 {n : Nat} {x0 : D} : callP (level E (n + 1)) 40 [x0] = pdC (fin [.v 1] (aCode (level E n) ⟨0,false⟩ c40 ⟨[.imm x0,.junk,.junk],[],none⟩)):=callP_go e40 rfl rfl rfl rfl
theorem e43 : E.fn 43 = some ir43:=rfl
theorem p43 {n : Nat} {x0 x1 : D} : callP (level E (n + 1)) 43 [x0,x1] = pdC (fin [.v 2] (aCode (level E n) ⟨0,false⟩ c43 ⟨[.imm x0,.imm x1,.junk,.junk,.junk,.junk,.junk],[],none⟩)):=callP_go e43 rfl rfl rfl rfl
theorem e44 : E.fn 44 = some ir44:=rfl
theorem p44 {n : Nat} : callP (level E (n + 1)) 44 [] = pdC (fin [.v 0] (aCode (level E n) ⟨0,false⟩ c44 ⟨[.junk],[],none⟩)):=callP_go e44 rfl rfl rfl rfl
theorem e45 : E.fn 45 = some ir45:=rfl
theorem p45 {n : Nat} : callP (level E (n + 1)) 45 [] = pdC (fin [.cell 0 true 4] (aCode (level E n) ⟨0,false⟩ c45 ⟨[.junk],[],none⟩)):=callP_go e45 rfl rfl rfl rfl
theorem e46 : E.fn 46 = some ir46:=rfl
theorem p46 {n : Nat} {x0 x1 x2 : D} : callP (level E (n + 1)) 46 [x0,x1,x2] = pdC (fin [.cell 3 true 4,.v 4] (aCode (level E n) ⟨0,false⟩ c46 ⟨[.imm x0,.imm x1,.imm x2,.junk,.junk,.junk,.junk,.junk,.junk,.junk,.junk,.junk],[],none⟩)):=callP_go e46 rfl rfl rfl rfl
theorem e47 : E.fn 47 = some ir47:=rfl
theorem p47 {n : Nat} {x0 x1 : D} : callP (level E (n + 1)) 47 [x0,x1] = pdC (fin [.v 2] (aCode (level E n) ⟨0,false⟩ c47 ⟨[.imm x0,.imm x1,.junk,.junk,.junk,.junk,.junk],[],none⟩)):=callP_go e47 rfl rfl rfl rfl
theorem e48 : E.fn 48 = some ir48:=rfl
theorem p48 {n : Nat} {x0 : D} : callP (level E (n + 1)) 48 [x0] = pdC (fin [.v 1] (aCode (level E n) ⟨0,false⟩ c48 ⟨[.imm x0,.junk,.junk,.junk,.junk,.junk,.junk,.junk,.junk,.junk,.junk,.junk,.junk,.junk,.junk,.junk,.junk,.junk,.junk],[],none⟩)):=callP_go e48 rfl rfl rfl rfl
theorem e49 : E.fn 49 = some ir49:=rfl
theorem p49 {n : Nat} {x0 x1 : D} : callP (level E (n + 1)) 49 [x0,x1] = pdC (fin [.v 2] (aCode (level E n) ⟨0,false⟩ c49 ⟨[.imm x0,.imm x1,.junk,.junk,.junk,.junk,.junk],[],none⟩)):=callP_go e49 rfl rfl rfl rfl
theorem e50 : E.fn 50 = some ir50:=rfl
theorem p50 {n : Nat} {x0 : D} : callP (level E (n + 1)) 50 [x0] = pdC (fin [.v 1] (aCode (level E n) ⟨0,false⟩ c50 ⟨[.imm x0,.junk,.junk,.junk,.junk,.junk,.junk,.junk,.junk,.junk,.junk,.junk,.junk],[],none⟩)):=callP_go e50 rfl rfl rfl rfl
theorem e51 : E.fn 51 = some ir51:=rfl
theorem p51 {n : Nat} {x0 : D} : callP (level E (n + 1)) 51 [x0] = pdC (fin [.v 1] (aCode (level E n) ⟨0,false⟩ c51 ⟨[.imm x0,.junk],[],none⟩)):=callP_go e51 rfl rfl rfl rfl
theorem e52 : E.fn 52 = some ir52:=rfl
theorem i52 {n : Nat} {x0 : D} : callI (level E (n + 1)) 52 [x0] = piC (fin [.v 1] (aCode (level E n) ⟨0,false⟩ c52 ⟨[.imm x0,.junk],[],none⟩)):=callI_go e52 rfl rfl rfl rfl
theorem e53 : E.fn 53 = some ir53:=rfl
theorem e54 : E.fn 54 = some ir54:=rfl
theorem p54 {n : Nat} {x0 x1 : D} : callP (level E (n + 1)) 54 [x0,x1] = pdC (fin [.v 2] (aCode (level E n) ⟨0,false⟩ c54 ⟨[.imm x0,.imm x1,.junk,.junk],[],none⟩)):=callP_go e54 rfl rfl rfl rfl
theorem e55 : E.fn 55 = some ir55:=rfl
theorem p55 {n : Nat} {x0 : D} : callP (level E (n + 1)) 55 [x0] = pdC (fin [.v 1] (aCode (level E n) ⟨0,false⟩ c55 ⟨[.imm x0,.junk,.junk,.junk,.junk,.junk,.junk,.junk],[],none⟩)):=callP_go e55 rfl rfl rfl rfl
theorem e56 : E.fn 56 = some ir56:=rfl
theorem p56 {n : Nat} {x0 : D} : callP (level E (n + 1)) 56 [x0] = pdC (fin [.v 1] (aCode (level E n) ⟨0,false⟩ c56 ⟨[.imm x0,.junk],[],none⟩)):=callP_go e56 rfl rfl rfl rfl
theorem e57 : E.fn 57 = some ir57:=rfl
theorem p57 {n : Nat} {x0 x1 x2 : D} : callP (level E (n + 1)) 57 [x0,x1,x2] = pdC (fin [.v 3] (aCode (level E n) ⟨0,false⟩ c57 ⟨[.imm x0,.imm x1,.imm x2,.junk],[],none⟩)):=callP_go e57 rfl rfl rfl rfl
theorem e58 : E.fn 58 = some ir58:=rfl
theorem p58 {n : Nat} {x0 : D} : callP (level E (n + 1)) 58 [x0] = pdC (fin [.v 1] (aCode (level E n) ⟨0,false⟩ c58 ⟨[.imm x0,.junk,.junk,.junk,.junk,.junk,.junk,.junk,.junk],[],none⟩)):=callP_go e58 rfl rfl rfl rfl
theorem e59 : E.fn 59 = some ir59:=rfl
theorem p59 {n : Nat} {x0 : D} : callP (level E (n + 1)) 59 [x0] = pdC (fin [.v 1] (aCode (level E n) ⟨0,false⟩ c59 ⟨[.imm x0,.junk,.junk,.junk,.junk,.junk,.junk,.junk],[],none⟩)):=callP_go e59 rfl rfl rfl rfl
theorem e60 : E.fn 60 = some ir60:=rfl
theorem p60 {n : Nat} {x0 : D} : callP (level E (n + 1)) 60 [x0] = pdC (fin [.v 1] (aCode (level E n) ⟨0,false⟩ c60 ⟨[.imm x0,.junk,.junk,.junk,.junk],[],none⟩)):=callP_go e60 rfl rfl rfl rfl
theorem e61 : E.fn 61 = some ir61:=rfl
theorem p61 {n : Nat} {x0 x1 : D} : callP (level E (n + 1)) 61 [x0,x1] = pdC (fin [.v 2] (aCode (level E n) ⟨0,false⟩ c61 ⟨[.imm x0,.imm x1,.junk],[],none⟩)):=callP_go e61 rfl rfl rfl rfl
theorem e62 : E.fn 62 = some ir62:=rfl
theorem p62 {n : Nat} {x0 x1 : D} : callP (level E (n + 1)) 62 [x0,x1] = pdC (fin [.v 2] (aCode (level E n) ⟨0,false⟩ c62 ⟨[.imm x0,.imm x1,.junk,.junk,.junk],[],none⟩)):=callP_go e62 rfl rfl rfl rfl
theorem e63 : E.fn 63 = some ir63:=rfl
theorem p63 {n : Nat} {x0 x1 x2 : D} : callP (level E (n + 1)) 63 [x0,x1,x2] = pdC (fin [.cell 3 true 4] (aCode (level E n) ⟨0,false⟩ c63 ⟨[.imm x0,.imm x1,.imm x2,.junk,.junk,.junk,.junk,.junk,.junk,.junk],[],none⟩)):=callP_go e63 rfl rfl rfl rfl
theorem e64 : E.fn 64 = some ir64:=rfl
theorem p64 {n : Nat} {x0 x1 : D} : callP (level E (n + 1)) 64 [x0,x1] = pdC (fin [.v 2] (aCode (level E n) ⟨0,false⟩ c64 ⟨[.imm x0,.imm x1,.junk,.junk,.junk],[],none⟩)):=callP_go e64 rfl rfl rfl rfl
theorem e65 : E.fn 65 = some ir65:=rfl
theorem p65 {n : Nat} {x0 : D} : callP (level E (n + 1)) 65 [x0] = pdC (fin [.v 1] (aCode (level E n) ⟨0,false⟩ c65 ⟨[.imm x0,.junk,.junk],[],none⟩)):=callP_go e65 rfl rfl rfl rfl
theorem e66 : E.fn 66 = some ir66:=rfl
theorem i66 {n : Nat} {x0 : D} : callI (level E (n + 1)) 66 [x0] = piC (fin [.v 1] (aCode (level E n) ⟨0,false⟩ c66 ⟨[.imm x0,.junk,.junk],[],none⟩)):=callI_go e66 rfl rfl rfl rfl
theorem e67 : E.fn 67 = some ir67:=rfl
theorem p67 {n : Nat} {x0 x1 x2 x3 : D} : callP (level E (n + 1)) 67 [x0,x1,x2,x3] = pdC (fin [.v 4] (aCode (level E n) ⟨0,false⟩ c67 ⟨[.imm x0,.imm x1,.imm x2,.imm x3,.junk,.junk],[],none⟩)):=callP_go e67 rfl rfl rfl rfl
theorem e68 : E.fn 68 = some ir68:=rfl
theorem p68 {n : Nat} {x0 x1 : D} : callP (level E (n + 1)) 68 [x0,x1] = pdC (fin [.v 2] (aCode (level E n) ⟨0,false⟩ c68 ⟨[.imm x0,.imm x1,.junk,.junk,.junk,.junk,.junk,.junk,.junk],[],none⟩)):=callP_go e68 rfl rfl rfl rfl
theorem e69 : E.fn 69 = some ir69:=rfl
theorem p69 {n : Nat} {x0 x1 x2 : D} : callP (level E (n + 1)) 69 [x0,x1,x2] = pdC (fin [.v 3] (aCode (level E n) ⟨0,false⟩ c69 ⟨[.imm x0,.imm x1,.imm x2,.junk,.junk,.junk,.junk,.junk,.junk],[],none⟩)):=callP_go e69 rfl rfl rfl rfl
theorem e70 : E.fn 70 = some ir70:=rfl
theorem p70 {n : Nat} {x0 x1 : D} : callP (level E (n + 1)) 70 [x0,x1] = pdC (fin [.cell 2 true 2] (aCode (level E n) ⟨0,false⟩ c70 ⟨[.imm x0,.imm x1,.junk,.junk,.junk,.junk],[],none⟩)):=callP_go e70 rfl rfl rfl rfl
theorem e71 : E.fn 71 = some ir71:=rfl
theorem p71 {n : Nat} {x0 : D} : callP (level E (n + 1)) 71 [x0] = pdC (fin [.v 1] (aCode (level E n) ⟨0,false⟩ c71 ⟨[.imm x0,.junk],[],none⟩)):=callP_go e71 rfl rfl rfl rfl
theorem e72 : E.fn 72 = some ir72:=rfl
theorem p72 {n : Nat} {x0 x1 : D} : callP (level E (n + 1)) 72 [x0,x1] = pdC (fin [.v 2] (aCode (level E n) ⟨0,false⟩ c72 ⟨[.imm x0,.imm x1,.junk],[],none⟩)):=callP_go e72 rfl rfl rfl rfl
theorem e73 : E.fn 73 = some ir73:=rfl
theorem p73 {n : Nat} {x0 : D} : callP (level E (n + 1)) 73 [x0] = pdC (fin [.v 1] (aCode (level E n) ⟨0,false⟩ c73 ⟨[.imm x0,.junk,.junk,.junk],[],none⟩)):=callP_go e73 rfl rfl rfl rfl
theorem e74 : E.fn 74 = some ir74:=rfl
theorem p74 {n : Nat} {x0 x1 x2 : D} : callP (level E (n + 1)) 74 [x0,x1,x2] = pdC (fin [.cell 3 true 3] (aCode (level E n) ⟨0,false⟩ c74 ⟨[.imm x0,.imm x1,.imm x2,.junk,.junk,.junk,.junk,.junk,.junk,.junk,.junk],[],none⟩)):=callP_go e74 rfl rfl rfl rfl
theorem e75 : E.fn 75 = some ir75:=rfl
theorem p75 {n : Nat} {x0 : D} : callP (level E (n + 1)) 75 [x0] = pdC (fin [.cell 1 true 3] (aCode (level E n) ⟨0,false⟩ c75 ⟨[.imm x0,.junk,.junk],[],none⟩)):=callP_go e75 rfl rfl rfl rfl
theorem e76 : E.fn 76 = some ir76:=rfl
theorem p76 {n : Nat} {x0 x1 : D} : callP (level E (n + 1)) 76 [x0,x1] = pdC (fin [.v 2] (aCode (level E n) ⟨0,false⟩ c76 ⟨[.imm x0,.imm x1,.junk,.junk,.junk,.junk],[],none⟩)):=callP_go e76 rfl rfl rfl rfl
theorem e77 : E.fn 77 = some ir77:=rfl
theorem p77 {n : Nat} {x0 x1 : D} : callP (level E (n + 1)) 77 [x0,x1] = pdC (fin [.v 2] (aCode (level E n) ⟨0,false⟩ c77 ⟨[.imm x0,.imm x1,.junk],[],none⟩)):=callP_go e77 rfl rfl rfl rfl
theorem e78 : E.fn 78 = some ir78:=rfl
theorem p78 {n : Nat} {x0 x1 : D} : callP (level E (n + 1)) 78 [x0,x1] = pdC (fin [.cell 2 true 2] (aCode (level E n) ⟨0,false⟩ c78 ⟨[.imm x0,.imm x1,.junk,.junk,.junk,.junk],[],none⟩)):=callP_go e78 rfl rfl rfl rfl
theorem e79 : E.fn 79 = some ir79:=rfl
theorem i79 {n : Nat} {x0 : D} : callI (level E (n + 1)) 79 [x0] = piC (fin [.v 1] (aCode (level E n) ⟨0,false⟩ c79 ⟨[.imm x0,.junk,.junk],[],none⟩)):=callI_go e79 rfl rfl rfl rfl
theorem e80 : E.fn 80 = some ir80:=rfl
theorem p80 {n : Nat} {x0 x1 : D} : callP (level E (n + 1)) 80 [x0,x1] = pdC (fin [.v 2] (aCode (level E n) ⟨0,false⟩ c80 ⟨[.imm x0,.imm x1,.junk],[],none⟩)):=callP_go e80 rfl rfl rfl rfl
theorem e81 : E.fn 81 = some ir81:=rfl
theorem p81 {n : Nat} {x0 x1 : D} : callP (level E (n + 1)) 81 [x0,x1] = pdC (fin [.v 2] (aCode (level E n) ⟨0,false⟩ c81 ⟨[.imm x0,.imm x1,.junk,.junk,.junk,.junk,.junk,.junk,.junk,.junk],[],none⟩)):=callP_go e81 rfl rfl rfl rfl
theorem e82 : E.fn 82 = some ir82:=rfl
theorem p82 {n : Nat} {x0 x1 x2 : D} : callP (level E (n + 1)) 82 [x0,x1,x2] = pdC (fin [.v 3] (aCode (level E n) ⟨0,false⟩ c82 ⟨[.imm x0,.imm x1,.imm x2,.junk,.junk,.junk,.junk,.junk,.junk,.junk,.junk,.junk],[],none⟩)):=callP_go e82 rfl rfl rfl rfl
theorem e84 : E.fn 84 = some ir84:=rfl
theorem p84 {n : Nat} {x0 x1 : D} : callP (level E (n + 1)) 84 [x0,x1] = pdC (fin [.v 2] (aCode (level E n) ⟨0,false⟩ c84 ⟨[.imm x0,.imm x1,.junk,.junk,.junk,.junk,.junk,.junk,.junk],[],none⟩)):=callP_go e84 rfl rfl rfl rfl
theorem e85 : E.fn 85 = some ir85:=rfl
theorem p85 {n : Nat} {x0 : D} : callP (level E (n + 1)) 85 [x0] = pdC (fin [.v 1] (aCode (level E n) ⟨0,false⟩ c85 ⟨[.imm x0,.junk,.junk],[],none⟩)):=callP_go e85 rfl rfl rfl rfl
theorem e86 : E.fn 86 = some ir86:=rfl
theorem s86 {n : Nat} {x0 x1 x2 : AV} {st : List AO} : callS (level E (n + 1)) 86 [x0,x1,x2] st = psC st.length (fin [.v 3] (aCode (level E n) ⟨st.length,false⟩ c86 ⟨[x0,x1,x2,.junk,.junk,.junk],st,none⟩)):=callS_go e86 rfl rfl rfl rfl
theorem e87 : E.fn 87 = some ir87:=rfl
theorem p87 {n : Nat} {x0 x1 x2 x3 : D} : callP (level E (n + 1)) 87 [x0,x1,x2,x3] = pdC (fin [.v 4] (aCode (level E n) ⟨0,false⟩ c87 ⟨[.imm x0,.imm x1,.imm x2,.imm x3,.junk,.junk],[],none⟩)):=callP_go e87 rfl rfl rfl rfl
theorem e89 : E.fn 89 = some ir89:=rfl
theorem p89 {n : Nat} {x0 : D} : callP (level E (n + 1)) 89 [x0] = pdC (fin [.v 1] (aCode (level E n) ⟨0,false⟩ c89 ⟨[.imm x0,.junk],[],none⟩)):=callP_go e89 rfl rfl rfl rfl
theorem e90 : E.fn 90 = some ir90:=rfl
theorem p90 {n : Nat} {x0 x1 : D} : callP (level E (n + 1)) 90 [x0,x1] = pdC (fin [.v 2] (aCode (level E n) ⟨0,false⟩ c90 ⟨[.imm x0,.imm x1,.junk,.junk],[],none⟩)):=callP_go e90 rfl rfl rfl rfl
theorem e91 : E.fn 91 = some ir91:=rfl
theorem s91 {n : Nat} {x0 x1 x2 : AV} {st : List AO} : callS (level E (n + 1)) 91 [x0,x1,x2] st = psC st.length (fin [.v 3] (aCode (level E n) ⟨st.length,false⟩ c91 ⟨[x0,x1,x2,.junk,.junk,.junk,.junk],st,none⟩)):=callS_go e91 rfl rfl rfl rfl
theorem e92 : E.fn 92 = some ir92:=rfl
theorem p92 {n : Nat} {x0 x1 : D} : callP (level E (n + 1)) 92 [x0,x1] = pdC (fin [.v 2] (aCode (level E n) ⟨0,false⟩ c92 ⟨[.imm x0,.imm x1,.junk,.junk],[],none⟩)):=callP_go e92 rfl rfl rfl rfl
theorem e93 : E.fn 93 = some ir93:=rfl
theorem p93 {n : Nat} {x0 : D} : callP (level E (n + 1)) 93 [x0] = pdC (fin [.v 1] (aCode (level E n) ⟨0,false⟩ c93 ⟨[.imm x0,.junk],[],none⟩)):=callP_go e93 rfl rfl rfl rfl
theorem e94 : E.fn 94 = some ir94:=rfl
theorem p94 {n : Nat} {x0 : D} : callP (level E (n + 1)) 94 [x0] = pdC (fin [.v 1,.v 2] (aCode (level E n) ⟨0,false⟩ c94 ⟨[.imm x0,.junk,.junk,.junk],[],none⟩)):=callP_go e94 rfl rfl rfl rfl
theorem e95 : E.fn 95 = some ir95:=rfl
theorem e96 : E.fn 96 = some ir96:=rfl
theorem p96 {n : Nat} {x0 x1 : D} : callP (level E (n + 1)) 96 [x0,x1] = pdC (fin [.v 2] (aCode (level E n) ⟨0,false⟩ c96 ⟨[.imm x0,.imm x1,.junk,.junk,.junk,.junk,.junk,.junk],[],none⟩)):=callP_go e96 rfl rfl rfl rfl
theorem e97 : E.fn 97 = some ir97:=rfl
theorem p97 {n : Nat} {x0 x1 : D} : callP (level E (n + 1)) 97 [x0,x1] = pdC (fin [.v 2] (aCode (level E n) ⟨0,false⟩ c97 ⟨[.imm x0,.imm x1,.junk,.junk,.junk,.junk],[],none⟩)):=callP_go e97 rfl rfl rfl rfl
theorem e100 : E.fn 100 = some ir100:=rfl
theorem p100 {n : Nat} {x0 x1 : D} : callP (level E (n + 1)) 100 [x0,x1] = pdC (fin [.v 2] (aCode (level E n) ⟨0,false⟩ c100 ⟨[.imm x0,.imm x1,.junk,.junk,.junk,.junk,.junk,.junk,.junk],[],none⟩)):=callP_go e100 rfl rfl rfl rfl
theorem e101 : E.fn 101 = some ir101:=rfl
theorem p101 {n : Nat} {x0 x1 : D} : callP (level E (n + 1)) 101 [x0,x1] = pdC (fin [.v 2] (aCode (level E n) ⟨0,false⟩ c101 ⟨[.imm x0,.imm x1,.junk],[],none⟩)):=callP_go e101 rfl rfl rfl rfl
theorem e103 : E.fn 103 = some ir103:=rfl
theorem p103 {n : Nat} {x0 : D} : callP (level E (n + 1)) 103 [x0] = pdC (fin [.v 1] (aCode (level E n) ⟨0,false⟩ c103 ⟨[.imm x0,.junk,.junk],[],none⟩)):=callP_go e103 rfl rfl rfl rfl
theorem e128 : E.fn 128 = some ir128:=rfl
theorem p128 {n : Nat} {x0 x1 : D} : callP (level E (n + 1)) 128 [x0,x1] = pdC (fin [.v 2] (aCode (level E n) ⟨0,false⟩ c128 ⟨[.imm x0,.imm x1,.junk,.junk],[],none⟩)):=callP_go e128 rfl rfl rfl rfl
theorem e129 : E.fn 129 = some ir129:=rfl
theorem p129 {n : Nat} {x0 x1 : D} : callP (level E (n + 1)) 129 [x0,x1] = pdC (fin [.v 2] (aCode (level E n) ⟨0,false⟩ c129 ⟨[.imm x0,.imm x1,.junk,.junk],[],none⟩)):=callP_go e129 rfl rfl rfl rfl
theorem e130 : E.fn 130 = some ir130:=rfl
theorem p130 {n : Nat} {x0 x1 : D} : callP (level E (n + 1)) 130 [x0,x1] = pdC (fin [.v 2] (aCode (level E n) ⟨0,false⟩ c130 ⟨[.imm x0,.imm x1,.junk],[],none⟩)):=callP_go e130 rfl rfl rfl rfl
theorem e131 : E.fn 131 = some ir131:=rfl
theorem p131 {n : Nat} {x0 x1 : D} : callP (level E (n + 1)) 131 [x0,x1] = pdC (fin [.v 2] (aCode (level E n) ⟨0,false⟩ c131 ⟨[.imm x0,.imm x1,.junk,.junk,.junk],[],none⟩)):=callP_go e131 rfl rfl rfl rfl
theorem u3_0 {lo : Lower} {cx : Cx} {s : S} : aCode lo cx b3_0 s = aCode lo cx d3_0 s:=id rfl
theorem u3_1 {lo : Lower} {cx : Cx} {s : S} : aCode lo cx b3_1 s = aCode lo cx d3_1 s:=id rfl
theorem u3_2 {lo : Lower} {cx : Cx} {s : S} : aCode lo cx b3_2 s = aCode lo cx d3_2 s:=id rfl
theorem u3_3 {lo : Lower} {cx : Cx} {s : S} : aCode lo cx b3_3 s = aCode lo cx d3_3 s:=id rfl
theorem u7_0 {lo : Lower} {cx : Cx} {s : S} : aCode lo cx b7_0 s = aCode lo cx d7_0 s:=id rfl
theorem u8_0 {lo : Lower} {cx : Cx} {s : S} : aCode lo cx b8_0 s = aCode lo cx d8_0 s:=id rfl
theorem u9_0 {lo : Lower} {cx : Cx} {s : S} : aCode lo cx b9_0 s = aCode lo cx d9_0 s:=id rfl
theorem u12_0 {lo : Lower} {cx : Cx} {s : S} : aCode lo cx b12_0 s = aCode lo cx d12_0 s:=id rfl
theorem u12_1 {lo : Lower} {cx : Cx} {s : S} : aCode lo cx b12_1 s = aCode lo cx d12_1 s:=id rfl
theorem u12_2 {lo : Lower} {cx : Cx} {s : S} : aCode lo cx b12_2 s = aCode lo cx d12_2 s:=id rfl
theorem u14_0 {lo : Lower} {cx : Cx} {s : S} : aCode lo cx b14_0 s = aCode lo cx d14_0 s:=id rfl
theorem u14_1 {lo : Lower} {cx : Cx} {s : S} : aCode lo cx b14_1 s = aCode lo cx d14_1 s:=id rfl
theorem u14_2 {lo : Lower} {cx : Cx} {s : S} : aCode lo cx b14_2 s = aCode lo cx d14_2 s:=id rfl
theorem u15_0 {lo : Lower} {cx : Cx} {s : S} : aCode lo cx b15_0 s = aCode lo cx d15_0 s:=id rfl
theorem u17_0 {lo : Lower} {cx : Cx} {s : S} : aCode lo cx b17_0 s = aCode lo cx d17_0 s:=id rfl
theorem u21_0 {lo : Lower} {cx : Cx} {s : S} : aCode lo cx b21_0 s = aCode lo cx d21_0 s:=id rfl
theorem u32_0 {lo : Lower} {cx : Cx} {s : S} : aCode lo cx b32_0 s = aCode lo cx d32_0 s:=id rfl
theorem u34_0 {lo : Lower} {cx : Cx} {s : S} : aCode lo cx b34_0 s = aCode lo cx d34_0 s:=id rfl
theorem u34_1 {lo : Lower} {cx : Cx} {s : S} : aCode lo cx b34_1 s = aCode lo cx d34_1 s:=id rfl
theorem u43_0 {lo : Lower} {cx : Cx} {s : S} : aCode lo cx b43_0 s = aCode lo cx d43_0 s:=id rfl
theorem u47_0 {lo : Lower} {cx : Cx} {s : S} : aCode lo cx b47_0 s = aCode lo cx d47_0 s:=id rfl
theorem u48_0 {lo : Lower} {cx : Cx} {s : S} : aCode lo cx b48_0 s = aCode lo cx d48_0 s:=id rfl
theorem u48_1 {lo : Lower} {cx : Cx} {s : S} : aCode lo cx b48_1 s = aCode lo cx d48_1 s:=id rfl
theorem u49_0 {lo : Lower} {cx : Cx} {s : S} : aCode lo cx b49_0 s = aCode lo cx d49_0 s:=id rfl
theorem u50_0 {lo : Lower} {cx : Cx} {s : S} : aCode lo cx b50_0 s = aCode lo cx d50_0 s:=id rfl
theorem u50_1 {lo : Lower} {cx : Cx} {s : S} : aCode lo cx b50_1 s = aCode lo cx d50_1 s:=id rfl
theorem u50_2 {lo : Lower} {cx : Cx} {s : S} : aCode lo cx b50_2 s = aCode lo cx d50_2 s:=id rfl
theorem u53_0 {lo : Lower} {cx : Cx} {s : S} : aCode lo cx b53_0 s = aCode lo cx d53_0 s:=id rfl
theorem u55_0 {lo : Lower} {cx : Cx} {s : S} : aCode lo cx b55_0 s = aCode lo cx d55_0 s:=id rfl
theorem u58_0 {lo : Lower} {cx : Cx} {s : S} : aCode lo cx b58_0 s = aCode lo cx d58_0 s:=id rfl
theorem u59_0 {lo : Lower} {cx : Cx} {s : S} : aCode lo cx b59_0 s = aCode lo cx d59_0 s:=id rfl
theorem u60_0 {lo : Lower} {cx : Cx} {s : S} : aCode lo cx b60_0 s = aCode lo cx d60_0 s:=id rfl
theorem u63_0 {lo : Lower} {cx : Cx} {s : S} : aCode lo cx b63_0 s = aCode lo cx d63_0 s:=id rfl
theorem u63_1 {lo : Lower} {cx : Cx} {s : S} : aCode lo cx b63_1 s = aCode lo cx d63_1 s:=id rfl
theorem u68_0 {lo : Lower} {cx : Cx} {s : S} : aCode lo cx b68_0 s = aCode lo cx d68_0 s:=id rfl
theorem u69_0 {lo : Lower} {cx : Cx} {s : S} : aCode lo cx b69_0 s = aCode lo cx d69_0 s:=id rfl
theorem u74_0 {lo : Lower} {cx : Cx} {s : S} : aCode lo cx b74_0 s = aCode lo cx d74_0 s:=id rfl
theorem u81_0 {lo : Lower} {cx : Cx} {s : S} : aCode lo cx b81_0 s = aCode lo cx d81_0 s:=id rfl
theorem u82_0 {lo : Lower} {cx : Cx} {s : S} : aCode lo cx b82_0 s = aCode lo cx d82_0 s:=id rfl
theorem u84_0 {lo : Lower} {cx : Cx} {s : S} : aCode lo cx b84_0 s = aCode lo cx d84_0 s:=id rfl
theorem u91_0 {lo : Lower} {cx : Cx} {s : S} : aCode lo cx b91_0 s = aCode lo cx d91_0 s:=id rfl
theorem u95_0 {lo : Lower} {cx : Cx} {s : S} : aCode lo cx b95_0 s = aCode lo cx d95_0 s:=id rfl
theorem u95_1 {lo : Lower} {cx : Cx} {s : S} : aCode lo cx b95_1 s = aCode lo cx d95_1 s:=id rfl
theorem u95_2 {lo : Lower} {cx : Cx} {s : S} : aCode lo cx b95_2 s = aCode lo cx d95_2 s:=id rfl
theorem u96_0 {lo : Lower} {cx : Cx} {s : S} : aCode lo cx b96_0 s = aCode lo cx d96_0 s:=id rfl
theorem u100_0 {lo : Lower} {cx : Cx} {s : S} : aCode lo cx b100_0 s = aCode lo cx d100_0 s:=id rfl
attribute [go_sem] u3_0 d3_0 u3_1 d3_1 u3_2 d3_2 u3_3 d3_3 u7_0 d7_0 u8_0 d8_0 u9_0 d9_0 u12_0 d12_0 u12_1 d12_1 u12_2 d12_2 u14_0 d14_0 u14_1 d14_1 u14_2 d14_2 u15_0 d15_0 u17_0 d17_0 u21_0 d21_0 u32_0 d32_0 u34_0 d34_0 u34_1 d34_1 u43_0 d43_0 u47_0 d47_0 u48_0 d48_0 u48_1 d48_1 u49_0 d49_0 u50_0 d50_0 u50_1 d50_1 u50_2 d50_2 u53_0 d53_0 u55_0 d55_0 u58_0 d58_0 u59_0 d59_0 u60_0 d60_0 u63_0 d63_0 u63_1 d63_1 u68_0 d68_0 u69_0 d69_0 u74_0 d74_0 u81_0 d81_0 u82_0 d82_0 u84_0 d84_0 u91_0 d91_0 u95_0 d95_0 u95_1 d95_1 u95_2 d95_2 u96_0 d96_0 u100_0 d100_0 c3 c7 c8 c9 c10 c11 c12 c13 c14 c15 c16 c17 c18 c19 c20 c21 c22 c23 c24 c25 c26 c32 c34 c36 c40 c43 c44 c45 c46 c47 c48 c49 c50 c51 c52 c53 c54 c55 c56 c57 c58 c59 c60 c61 c62 c63 c64 c65 c66 c67 c68 c69 c70 c71 c72 c73 c74 c75 c76 c77 c78 c79 c80 c81 c82 c84 c85 c86 c87 c89 c90 c91 c92 c93 c94 c95 c96 c97 c100 c101 c103 c128 c129 c130 c131
end Go.Vm.P4D

/- How plain data and own blocks stand for the model's values and memory; what stays true when memory grows. -/
namespace Go.Vm
open Go
inductive RepD (F : Nat → Prop) (W : World) : D → Value → Prop
  | int (k : IntKind) (n : Int) : RepD F W (.int k n) (.int k n)
  | bool (b : Bool) : RepD F W (.bool b) (.bool b)
  | str (s : ByteArray) : RepD F W (.str s) (.string s)
  | nil : RepD F W .nil (.slice none 0 0)
  | nilp : RepD F W .nilp (.pointer none)
  | nilf : RepD F W .nilf .nilFunc
  | nilm : RepD F W .nilm (.map none)
  | sl (sz : Nat) (es : List (List D)) (a : Addr) (cap : Nat) (c : Nat → Nat → Value) (ha : es ≠ [] → a.spot = none) (hn : es.length ≤ cap) (hz : ∀ e ∈ es,e.length = sz)
      (hc : ∀ i e j d,es[i]? = some e → e[j]? = some d → F a.block ∧ W.cell? ⟨a.block,a.off + (i * sz + j),none⟩ = some (c i j) ∧ (c i j).oneCell' = true)
      (hr : ∀ i e j d,es[i]? = some e → e[j]? = some d → RepD F W d (c i j)) : RepD F W (.sl sz es) (.slice (some a) es.length cap)
  | agg (cs : List D) (vs : Array Value) (hl : vs.size = cs.length) (hr : ∀ j d,cs[j]? = some d → RepD F W d (vs.getD j undef)) : RepD F W (.agg cs) (.agg vs)
  | ptr (cs : List D) (a : Addr) (c : Nat → Value) (ha : a.spot = none) (hc : ∀ j d,cs[j]? = some d → F a.block ∧ W.cell? ⟨a.block,a.off + j,none⟩ = some (c j) ∧ (c j).oneCell' = true)
      (hr : ∀ j d,cs[j]? = some d → RepD F W d (c j)) : RepD F W (.ptr cs) (.pointer (some a))
  | fn (f : FuncId) (x y : List D) (vx vy : Array Value) (hx : vx.size = x.length) (hy : vy.size = y.length)
      (rx : ∀ j d,x[j]? = some d → RepD F W d (vx.getD j undef)) (ry : ∀ j d,y[j]? = some d → RepD F W d (vy.getD j undef)) : RepD F W (.fn f x y) (.func (.func f) vx vy)
  | tup (ds : List D) (vs : Array Value) (hl : vs.size = ds.length) (hr : ∀ j d,ds[j]? = some d → RepD F W d (vs.getD j undef)) : RepD F W (.tup ds) (.tuple vs)
theorem cell_same {W W' : World} {b : Nat} (h : W'.heap[b]? = W.heap[b]?) (o : Nat) : W'.cell? ⟨b,o,none⟩ = W.cell? ⟨b,o,none⟩:=by
  simp only [World.cell?,h]
theorem RepD.mono {F F' : Nat → Prop} {W W' : World} (hF : ∀ b,F b → F' b) (hW : ∀ b,F b → W'.heap[b]? = W.heap[b]?) {d : D} {v : Value} (h : RepD F W d v) : RepD F' W' d v:=by
  induction h with
  | int k n => exact .int k n
  | bool b => exact .bool b
  | str s => exact .str s
  | nil => exact .nil
  | nilp => exact .nilp
  | nilf => exact .nilf
  | nilm => exact .nilm
  | sl sz es a cap c ha hn hz hc _ ih =>
    exact .sl sz es a cap c ha hn hz (fun i e j d h1 h2 => let ⟨x,y,z⟩:=hc i e j d h1 h2; ⟨hF _ x,(cell_same (hW _ x) _).trans y,z⟩) ih
  | agg cs vs hl _ ih => exact .agg cs vs hl ih
  | ptr cs a c ha hc _ ih => exact .ptr cs a c ha (fun j d h1 => let ⟨x,y,z⟩:=hc j d h1; ⟨hF _ x,(cell_same (hW _ x) _).trans y,z⟩) ih
  | fn f x y vx vy hx hy _ _ i1 i2 => exact .fn f x y vx vy hx hy i1 i2
  | tup ds vs hl _ ih => exact .tup ds vs hl ih
def rowSize (W : World) (b : Nat) : Option Nat :=
  match W.heap[b]? with
  | some (.cells c _ (0,0)) => some c.size
  | _ => none
inductive RepA (m : Nat → Option Nat) (F : Nat → Prop) (L : Option Nat) (W : World) : AV → Value → Prop
  | imm (d : D) (v : Value) (h : RepD F W d v) : RepA m F L W (.imm d) v
  | agg (cs : List AV) (vs : Array Value) (hl : vs.size = cs.length) (hr : ∀ j d,cs[j]? = some d → RepA m F L W d (vs.getD j undef)) : RepA m F L W (.agg cs) (.agg vs)
  | tup (cs : List AV) (vs : Array Value) (hl : vs.size = cs.length) (hr : ∀ j d,cs[j]? = some d → RepA m F L W d (vs.getD j undef)) : RepA m F L W (.tup cs) (.tuple vs)
  | ref (id sz lo n : Nat) (b : Nat) (a : Addr) (cap s : Nat) (hm : m id = some b) (hb : a.block = b) (ha : a.spot = none) (ho : 0 < cap → a.off = lo * sz)
      (hs : rowSize W b = some s) (hle : (lo + cap) * sz = s) (hn : n ≤ cap) : RepA m F L W (.ref id sz lo n) (.slice (some a) n cap)
  | ptr (id off : Nat) (b : Nat) (hm : m id = some b) : RepA m F L W (.ptr id off) (.pointer (some ⟨b,off,none⟩))
  | clo (f : FuncId) (x y : List AV) (vx vy : Array Value) (hx : vx.size = x.length) (hy : vy.size = y.length)
      (rx : ∀ j d,x[j]? = some d → RepA m F L W d (vx.getD j undef)) (ry : ∀ j d,y[j]? = some d → RepA m F L W d (vy.getD j undef)) : RepA m F L W (.clo f x y) (.func (.func f) vx vy)
  | yield (l : Nat) (h : L = some l) : RepA m F L W .yield (.func (.yield l) #[] #[])
  | map (id : Nat) (b : Nat) (hm : m id = some b) : RepA m F L W (.map id) (.map (some b))
  | e0 (sz : Nat) (a : Addr) : RepA m F L W (.e0 sz) (.slice (some a) 0 0)
  | junk (v : Value) : RepA m F L W .junk v
structure Tr (O : Nat → Prop) (W W' : World) : Prop where
  os : W'.os = W.os
  tape : W'.tape = W.tape
  output : W'.output = W.output
  size : W.heap.size ≤ W'.heap.size
  keep : ∀ b,b < W.heap.size → ¬ O b → W'.heap[b]? = W.heap[b]?
  rows : ∀ b s,rowSize W b = some s → rowSize W' b = some s
theorem Tr.refl (O : Nat → Prop) (W : World) : Tr O W W:=⟨rfl,rfl,rfl,Nat.le_refl _,fun _ _ _ => rfl,fun _ _ h => h⟩
theorem Tr.trans {O O' : Nat → Prop} {A B C : World} (h : Tr O A B) (k : Tr O' B C) (hO : ∀ b,b < A.heap.size → O' b → O b) : Tr O A C :=
  ⟨k.os.trans h.os,k.tape.trans h.tape,k.output.trans h.output,Nat.le_trans h.size k.size,
   fun b hb hn => (k.keep b (Nat.lt_of_lt_of_le hb h.size) (fun hc => hn (hO b hb hc))).trans (h.keep b hb hn),fun b s hr => k.rows b s (h.rows b s hr)⟩
theorem Tr.mono {O O' : Nat → Prop} {A B : World} (h : Tr O A B) (hO : ∀ b,b < A.heap.size → O b → O' b) : Tr O' A B :=
  ⟨h.os,h.tape,h.output,h.size,fun b hb hn => h.keep b hb (fun hc => hn (hO b hb hc)),h.rows⟩
theorem RepA.mono {m m' : Nat → Option Nat} {F F' : Nat → Prop} {L : Option Nat} {W W' : World} (hm : ∀ i b,m i = some b → m' i = some b) (hF : ∀ b,F b → F' b) (hW : ∀ b,F b → W'.heap[b]? = W.heap[b]?)
    (hR : ∀ b s,rowSize W b = some s → rowSize W' b = some s) {d : AV} {v : Value} (h : RepA m F L W d v) : RepA m' F' L W' d v:=by
  induction h with
  | imm d v h => exact .imm d v (h.mono hF hW)
  | agg cs vs hl _ ih => exact .agg cs vs hl ih
  | tup cs vs hl _ ih => exact .tup cs vs hl ih
  | ref id sz lo n b a cap s h1 h2 h3 h4 h5 h6 h7 => exact .ref id sz lo n b a cap s (hm _ _ h1) h2 h3 h4 (hR _ _ h5) h6 h7
  | ptr id off b h => exact .ptr id off b (hm _ _ h)
  | clo f x y vx vy hx hy _ _ i1 i2 => exact .clo f x y vx vy hx hy i1 i2
  | yield l h => exact .yield l h
  | map id b h => exact .map id b (hm _ _ h)
  | e0 sz a => exact .e0 sz a
  | junk v => exact .junk v
def RelO (m : Nat → Option Nat) (F : Nat → Prop) (L : Option Nat) (W : World) (b : Nat) : AO → Prop
  | .dead => True
  | .box cs => ∃ c t,W.heap[b]? = some (.cells c t (0,0)) ∧ cs.length = c.size ∧ (∀ j,j < cs.length → (c.getD j undef).oneCell' = true) ∧ ∀ j d,cs[j]? = some d → RepA m F L W d (c.getD j undef)
  | .fbox cs => ∃ c t,W.heap[b]? = some (.cells c t (0,0)) ∧ cs.length = c.size ∧ (∀ j,j < cs.length → (c.getD j undef).oneCell' = true) ∧ F b ∧ ∀ j d,cs[j]? = some d → RepD F W d (c.getD j undef)
  | .arr sz es => ∃ c t,W.heap[b]? = some (.cells c t (0,0)) ∧ (∀ e ∈ es,e.length = sz) ∧ es.length * sz ≤ c.size ∧ (∀ k,k < es.length * sz → (c.getD k undef).oneCell' = true) ∧
      ∀ i e j d,es[i]? = some e → e[j]? = some d → RepD F W d (c.getD (i * sz + j) undef)
  | .farr sz es => ∃ c t,W.heap[b]? = some (.cells c t (0,0)) ∧ (∀ e ∈ es,e.length = sz) ∧ es.length * sz ≤ c.size ∧ (∀ k,k < es.length * sz → (c.getD k undef).oneCell' = true) ∧ F b ∧
      ∀ i e j d,es[i]? = some e → e[j]? = some d → RepD F W d (c.getD (i * sz + j) undef)
  | .imap es => ∃ (ents : Array MapEntry) (clock : Nat),W.heap[b]? = some (.map ents clock) ∧ ents.size = es.length ∧
      ∀ (i : Nat) (k : Int) (d : D),es[i]? = some (k,d) → ∃ e : MapEntry,ents[i]? = some e ∧ e.key = .int .i64 k ∧ RepD F W d e.val
  | .iter s pos => W.heap[b]? = some (.stringIter s pos)
def lv : AO → Bool
  | .dead | .fbox _ | .farr _ _ => false
  | _ => true
abbrev Sto:=Nat → AO
def sto (l : List AO) : Sto:=fun i => l.getD i .dead
def own (m : Nat → Option Nat) (st : Sto) (b : Nat) : Prop:=∃ i,lv (st i) = true ∧ m i = some b
structure Rel (gb : Nat → Option (List D)) (m : Nat → Option Nat) (F : Nat → Prop) (L : Option Nat) (W : World) (st : Sto) : Prop where
  gl : ∀ g cs,gb g = some cs → RepD F W (.ptr cs) (.pointer (some ⟨g,0,none⟩))
  hs : ∀ i,st i ≠ .dead → ∃ b,m i = some b ∧ RelO m F L W b (st i)
  inj : ∀ i j b,lv (st i) = true → lv (st j) = true → m i = some b → m j = some b → i = j
  nF : ∀ i b,lv (st i) = true → m i = some b → ¬ F b
  hF : ∀ b,F b → b < W.heap.size
  hm : ∀ i b,m i = some b → b < W.heap.size
theorem RelO.mono {m m' : Nat → Option Nat} {F F' : Nat → Prop} {L : Option Nat} {W W' : World} {b : Nat} {o : AO} (hm : ∀ i b,m i = some b → m' i = some b) (hF : ∀ b,F b → F' b) (hW : ∀ b,F b → W'.heap[b]? = W.heap[b]?)
    (hR : ∀ b s,rowSize W b = some s → rowSize W' b = some s) (hb : W'.heap[b]? = W.heap[b]?) (h : RelO m F L W b o) : RelO m' F' L W' b o:=by
  cases o with
  | dead => exact True.intro
  | box cs => obtain ⟨c,t,h1,h2,hk,h3⟩:=h; exact ⟨c,t,hb.trans h1,h2,hk,fun j d hj => (h3 j d hj).mono hm hF hW hR⟩
  | fbox cs => obtain ⟨c,t,h1,h2,hk,h0,h3⟩:=h; exact ⟨c,t,hb.trans h1,h2,hk,hF _ h0,fun j d hj => (h3 j d hj).mono hF hW⟩
  | arr sz es => obtain ⟨c,t,h1,h2,h3,hk,h4⟩:=h; exact ⟨c,t,hb.trans h1,h2,h3,hk,fun i e j d hi hj => (h4 i e j d hi hj).mono hF hW⟩
  | farr sz es => obtain ⟨c,t,h1,h2,h3,hk,h0,h4⟩:=h; exact ⟨c,t,hb.trans h1,h2,h3,hk,hF _ h0,fun i e j d hi hj => (h4 i e j d hi hj).mono hF hW⟩
  | imap es => obtain ⟨c,t,h1,h2,h3⟩:=h; exact ⟨c,t,hb.trans h1,h2,fun i k d hi => let ⟨e,a,b,c⟩:=h3 i k d hi; ⟨e,a,b,c.mono hF hW⟩⟩
  | iter s pos => exact Eq.trans hb h
theorem Rel.mono {gb : Nat → Option (List D)} {m m' : Nat → Option Nat} {F F' : Nat → Prop} {L : Option Nat} {W W' : World} {st : Sto} {O : Nat → Prop} (R : Rel gb m F L W st) (T : Tr O W W') (hm : ∀ i b,m i = some b → m' i = some b) (hm' : ∀ i b,m' i = some b → b < W'.heap.size)
    (hF : ∀ b,F b → F' b) (hF' : ∀ b,F' b → b < W'.heap.size) (hO : ∀ i b,st i ≠ .dead → m i = some b → ¬ O b) (hOF : ∀ b,F b → ¬ O b)
    (hnF : ∀ i b,lv (st i) = true → m i = some b → ¬ F' b) : Rel gb m' F' L W' st:=by
  have hW : ∀ b,F b → W'.heap[b]? = W.heap[b]?:=fun b hb => T.keep b (R.hF b hb) (hOF b hb)
  have nd : ∀ i,lv (st i) = true → st i ≠ .dead:=fun i h e => by rw [e] at h; cases h
  have back : ∀ i b,lv (st i) = true → m' i = some b → m i = some b:=fun i b hl h => by
    obtain ⟨b',h1,_⟩:=R.hs i (nd i hl)
    have:=hm i b' h1
    rw [h] at this; injection this with this; subst this; exact h1
  refine ⟨fun g cs h => (R.gl g cs h).mono hF hW,fun i hi => ?_,fun i j b hi hj h1 h2 => R.inj i j b hi hj (back i b hi h1) (back j b hj h2),fun i b hi h1 => hnF i b hi (back i b hi h1),hF',hm'⟩
  obtain ⟨b,h1,h2⟩:=R.hs i hi
  exact ⟨b,hm _ _ h1,h2.mono hm hF hW T.rows (T.keep b (R.hm i b h1) (hO i b hi h1))⟩
end Go.Vm

/- What the model's memory operations do,in the abstract machine's words. -/
namespace Go.Vm
open Go
variable {P : Program} {W : World}
theorem add_none (b o n : Nat) : (⟨b,o,none⟩ : Addr).add n = ⟨b,o + n,none⟩:=by
  unfold Addr.add; split
  · rename_i h; subst h; rfl
  · rfl
theorem addr_none {a : Addr} (h : a.spot = none) : a = ⟨a.block,a.off,none⟩:=by cases a; simp at h; subst h; rfl
theorem run_und {t : TypeId} {d : TypeDesc} (h : P.underlying t = some d) : (underlying t).run P W = .ok d W:=by
  simp [underlying,h]
theorem run_info {t : TypeId} {i : TypeInfo} (h : P.info? t = some i) : (typeInfo t).run P W = .ok i W:=by
  simp [typeInfo,h]
theorem run_aggB {t : TypeId} {b : Bool} (h : isAggB P t = some b) : (isAgg t).run P W = .ok b W:=by
  unfold isAggB at h
  unfold isAgg
  cases hu : P.underlying t with
  | none => rw [hu] at h; cases h
  | some d =>
    rw [hu] at h
    simp only [Sem.run_bind,run_und hu,Result.andThen_ok]
    cases d <;> simp at h <;> subst h <;> rfl
theorem run_sizeB {t : TypeId} {n : Nat} (h : sizeB P t = some n) : (sizeOf t).run P W = .ok n W:=by
  unfold sizeB at h
  cases hi : P.info? t with
  | none => rw [hi] at h; cases h
  | some i =>
    rw [hi] at h; simp at h; subst h
    simp [sizeOf,run_info hi]
theorem run_bytesB {t : TypeId} {n : Nat} (h : bytesB P t = some n) : ∃ i,(typeInfo t).run P W = .ok i W ∧ i.bytes = n:=by
  unfold bytesB at h
  cases hi : P.info? t with
  | none => rw [hi] at h; cases h
  | some i => rw [hi] at h; simp at h; exact ⟨i,run_info hi,h⟩
theorem rep_cell {F : Nat → Prop} {v : Value} {d : D} (h : dOfCell v = some d) : RepD F W d v:=by
  unfold dOfCell at h
  split at h <;> first | (injection h with h; subst h; constructor) | cases h
theorem oneCell_of {v : Value} {d : D} (h : dOfCell v = some d) : v.oneCell' = true:=by
  unfold dOfCell at h
  split at h <;> first | rfl | cases h
theorem rep_cells {F : Nat → Prop} : ∀ {vs : List Value} {ds : List D},dsOfCells vs = some ds → ds.length = vs.length ∧ (∀ v ∈ vs,v.oneCell' = true) ∧ ∀ j d,ds[j]? = some d → RepD F W d (vs.getD j undef)
  | [],ds,h => by simp [dsOfCells] at h; subst h; simp
  | v :: r,ds,h => by
    simp only [dsOfCells] at h
    split at h
    · rename_i d ds' h1 h2
      injection h with h; subst h
      obtain ⟨i1,i2,i3⟩:=rep_cells (F:=F) h2
      refine ⟨by simp [i1],fun u hu => ?_,fun j d' hj => ?_⟩
      · cases hu with
        | head => exact oneCell_of h1
        | tail _ hu => exact i2 u hu
      · cases j with
        | zero => simp at hj; subst hj; exact rep_cell h1
        | succ j => simp at hj; simpa using i3 j d' hj
    · cases h
theorem rep_const {F : Nat → Prop} {v : Value} {d : D} (h : dOfV v = some d) : RepD F W d v:=by
  unfold dOfV at h
  split at h
  · rename_i cs
    cases hc : dsOfCells cs.toList with
    | none => rw [hc] at h; cases h
    | some ds =>
      rw [hc] at h; simp at h; subst h
      obtain ⟨i1,_,i3⟩:=rep_cells (F:=F) (W:=W) hc
      refine .agg ds cs (by simpa using i1.symm) (fun j d hj => ?_)
      simpa using i3 j d hj
  · exact rep_cell h
theorem run_zeroB {F : Nat → Prop} {t : TypeId} {ds : List D} (h : zeroB P t = some ds) : ∃ z : Value,(zeroValue t).run P W = .ok z W ∧ z.cells.size = ds.length ∧ sizeB P t = some ds.length ∧ (∀ v ∈ z.cells.toList,v.oneCell' = true) ∧ ∀ j d,ds[j]? = some d → RepD F W d (z.cells.getD j undef):=by
  unfold zeroB at h
  split at h
  · rename_i i hi
    split at h
    · rename_i z hz
      split at h
      · rename_i ds' hd
        split at h
        · rename_i hl
          injection h with h; subst h
          obtain ⟨i1,i2,i3⟩:=rep_cells (F:=F) (W:=W) hd
          refine ⟨z,by simp [zeroValue,run_info hi,hz],by simpa using i1.symm,by simp [sizeB,hi,hl],i2,fun j d hj => by simpa using i3 j d hj⟩
        · cases h
      · cases h
    · cases h
  · cases h
theorem run_loadVarB {t : TypeId} {g : Bool} {n b o : Nat} (ha : isAggB P t = some g) (hs : sizeB P t = some n) (f : Nat → Value) (hn : g = false → n = 1)
    (hc : ∀ j,j < n → W.cell? ⟨b,o + j,none⟩ = some (f j)) :
    (loadVar t ⟨b,o,none⟩).run P W = .ok (if g then .agg ((List.range n).map f).toArray else f 0) W:=by
  unfold loadVar
  simp only [Sem.run_bind,run_aggB ha,Result.andThen_ok]
  cases g with
  | true =>
    simp only [if_true,Sem.run_bind,run_sizeB hs,Result.andThen_ok]
    rw [run_loadCells W ⟨b,o,none⟩ n f (fun j hj => by rw [add_none]; exact hc j hj)]
    rfl
  | false =>
    obtain rfl:=hn rfl
    have h0:=hc 0 (by omega)
    simp only [Nat.add_zero] at h0
    simp [h0]
end Go.Vm

/- Soundness,first part: what an operation owes; renaming,deepening,garbage. -/
namespace Go.Vm
open Go
def fen : Option Nat → Fence
  | none => Fence.wide
  | some l => Fence.wide.inRound l
theorem fen_fn (ro : Option Nat) (f : FuncId) : (fen ro).fn f:=by cases ro <;> exact True.intro
theorem fen_depth (ro : Option Nat) : (fen ro).depth = none:=by cases ro <;> rfl
def Ok (P : Program) (ro : Option Nat) (o : Oper) (a : Act) (W : World) (K : Value → World → Prop) : Prop :=
  ∀ next Q,(∀ v W',K v W' → next (a.put o.dst v) W') → o.wpIn (fen ro) 0 P a W next Q
section
variable {P : Program} {ro : Option Nat} {o : Oper} {a : Act} {W W' : World} {K K' : Value → World → Prop}
theorem Ok.val {v : Value} (hd : ∀ c,o.op ≠ .defer c) (h : (execOp a.eval o).run P W = .ok (.value v) W') (hk : K v W') : Ok P ro o a W K:=by
  intro next Q hn
  refine ⟨fun f _ => fen_fn ro f,?_⟩
  rw [Oper.semAt_eq _ _ _ hd,h]
  exact hn v W' hk
theorem Ok.skip (hd : ∀ c,o.op ≠ .defer c) (h : (execOp a.eval o).run P W = .ok .skip W') (hk : K undef W') : Ok P ro o a W K:=by
  intro next Q hn
  refine ⟨fun f _ => fen_fn ro f,?_⟩
  rw [Oper.semAt_eq _ _ _ hd,h]
  exact hn undef W' hk
theorem Ok.enter {f : FuncId} {args : Array Value} {R : Ending → World → Prop} (hd : ∀ c,o.op ≠ .defer c) (h : (execOp a.eval o).run P W = .ok (.enter f args) W')
    (hc : CallsIn Fence.wide 0 P f args W' R) (hR : ∀ e w,R e w → ∃ v,e = .returned v ∧ K v w) : Ok P ro o a W K:=by
  intro next Q hn
  refine ⟨fun f _ => fen_fn ro f,?_⟩
  rw [Oper.semAt_eq _ _ _ hd,h]
  refine ⟨fun hs => by rw [fen_depth] at hs; simp at hs,?_⟩
  have hc' : CallsIn (fen ro) 0 P f args W' R:=by
    cases ro with
    | none => exact hc
    | some l => exact CallsIn.inRound l hc
  refine hc'.mono fun e w he => ?_
  obtain ⟨v,rfl,hk⟩:=hR e w he
  exact hn v w hk
theorem Ok.mono (h : Ok P ro o a W K) (hk : ∀ v w,K v w → K' v w) : Ok P ro o a W K':=fun next Q hn => h next Q fun v w hv => hn v w (hk v w hv)
end
structure Grow (O : Nat → Prop) (m : Nat → Option Nat) (F : Nat → Prop) (W : World) (m' : Nat → Option Nat) (F' : Nat → Prop) (W' : World) : Prop where
  hm : ∀ i b,m i = some b → m' i = some b
  hF : ∀ b,F b → F' b
  nF : ∀ b,F' b → F b ∨ O b ∨ W.heap.size ≤ b
  tr : Tr O W W'
theorem Grow.refl (O : Nat → Prop) (m : Nat → Option Nat) (F : Nat → Prop) (W : World) : Grow O m F W m F W:=⟨fun _ _ h => h,fun _ h => h,fun _ h => .inl h,Tr.refl O W⟩
theorem Grow.trans {O O' : Nat → Prop} {m m1 m2 : Nat → Option Nat} {F F1 F2 : Nat → Prop} {W W1 W2 : World} (h : Grow O m F W m1 F1 W1) (k : Grow O' m1 F1 W1 m2 F2 W2) (hO : ∀ b,O' b → O b ∨ W.heap.size ≤ b) : Grow O m F W m2 F2 W2:=by
  refine ⟨fun i b hi => k.hm _ _ (h.hm _ _ hi),fun b hb => k.hF _ (h.hF _ hb),fun b hb => ?_,h.tr.trans k.tr fun b hb h1 => (hO b h1).resolve_right (by omega)⟩
  rcases k.nF b hb with h1 | h1 | h1
  · exact h.nF b h1
  · exact (hO b h1).elim (fun x => .inr (.inl x)) fun x => .inr (.inr x)
  · exact .inr (.inr (Nat.le_trans h.tr.size h1))
theorem Grow.rep {O : Nat → Prop} {m m' : Nat → Option Nat} {F F' : Nat → Prop} {W W' : World} {L : Option Nat} {d : AV} {v : Value} (h : Grow O m F W m' F' W') (hlt : ∀ b,F b → b < W.heap.size) (hO : ∀ b,F b → ¬ O b) (hr : RepA m F L W d v) : RepA m' F' L W' d v :=
  hr.mono h.hm h.hF (fun b hb => h.tr.keep b (hlt b hb) (hO b hb)) h.tr.rows
def put (st : Sto) (nid : Nat) (news : List AO) : Sto:=fun i => if nid ≤ i ∧ i < nid + news.length then news.getD (i - nid) .dead else st i
theorem put_nil (st : Sto) (nid : Nat) : put st nid [] = st:=by
  funext i; unfold put; rw [if_neg (by simp)]
theorem sto_append (st news : List AO) : sto (st ++ news) = put (sto st) st.length news:=by
  funext i
  unfold put sto
  split
  · rename_i h
    simp only [List.getD_eq_getElem?_getD]
    rw [List.getElem?_append_right h.1]
  · rename_i h
    simp only [List.getD_eq_getElem?_getD]
    by_cases hi : i < st.length
    · rw [List.getElem?_append_left hi]
    · rw [List.getElem?_eq_none (by simp; omega),List.getElem?_eq_none (by omega)]
theorem renL_map (f : Nat → Option Nat) : ∀ l : List AV,renL f l = l.map (ren f)
  | [] => by simp [renL]
  | v :: r => by simp [renL,renL_map f r]
theorem ren_rep {m m' : Nat → Option Nat} {F : Nat → Prop} {L : Option Nat} {W : World} {f : Nat → Option Nat} (hf : ∀ i j b,f i = some j → m i = some b → m' j = some b) {v : AV} {w : Value} (h : RepA m F L W v w) : RepA m' F L W (ren f v) w:=by
  induction h with
  | imm d v h => simp only [ren]; exact .imm d v h
  | agg cs vs hl _ ih =>
    simp only [ren,renL_map]
    refine .agg _ vs (by simpa using hl) fun j d hj => ?_
    simp only [List.getElem?_map,Option.map_eq_some_iff] at hj
    obtain ⟨d0,h0,rfl⟩:=hj
    exact ih j d0 h0
  | tup cs vs hl _ ih =>
    simp only [ren,renL_map]
    refine .tup _ vs (by simpa using hl) fun j d hj => ?_
    simp only [List.getElem?_map,Option.map_eq_some_iff] at hj
    obtain ⟨d0,h0,rfl⟩:=hj
    exact ih j d0 h0
  | ref id sz lo n b a cap s h1 h2 h3 h4 h5 h6 h7 =>
    simp only [ren]
    cases hj : f id with
    | none => exact .junk _
    | some j => exact .ref j sz lo n b a cap s (hf _ _ _ hj h1) h2 h3 h4 h5 h6 h7
  | ptr id off b h =>
    simp only [ren]
    cases hj : f id with
    | none => exact .junk _
    | some j => exact .ptr j off b (hf _ _ _ hj h)
  | clo g x y vx vy hx hy _ _ i1 i2 =>
    simp only [ren,renL_map]
    refine .clo g _ _ vx vy (by simpa using hx) (by simpa using hy) (fun j d hj => ?_) (fun j d hj => ?_)
    · simp only [List.getElem?_map,Option.map_eq_some_iff] at hj
      obtain ⟨d0,h0,rfl⟩:=hj
      exact i1 j d0 h0
    · simp only [List.getElem?_map,Option.map_eq_some_iff] at hj
      obtain ⟨d0,h0,rfl⟩:=hj
      exact i2 j d0 h0
  | yield l h => simp only [ren]; exact .yield l h
  | map id b h =>
    simp only [ren]
    cases hj : f id with
    | none => exact .junk _
    | some j => exact .map j b (hf _ _ _ hj h)
  | e0 sz a => simp only [ren]; exact .e0 sz a
  | junk v => simp only [ren]; exact .junk v
theorem renO_rel {m m' : Nat → Option Nat} {F : Nat → Prop} {L : Option Nat} {W : World} {f : Nat → Option Nat} (hf : ∀ i j b,f i = some j → m i = some b → m' j = some b) {b : Nat} {o : AO} (h : RelO m F L W b o) : RelO m' F L W b (renO f o):=by
  cases o with
  | box cs =>
    obtain ⟨c,t,h1,h2,hk,h3⟩:=h
    refine ⟨c,t,h1,by simpa [renL_map] using h2,by simpa [renL_map] using hk,fun j d hj => ?_⟩
    simp only [renL_map,List.getElem?_map,Option.map_eq_some_iff] at hj
    obtain ⟨d0,h0,rfl⟩:=hj
    exact ren_rep hf (h3 j d0 h0)
  | _ => exact h
theorem lv_renO (f : Nat → Option Nat) (o : AO) : lv (renO f o) = lv o:=by cases o <;> rfl
theorem renO_dead {f : Nat → Option Nat} {o : AO} : renO f o = .dead ↔ o = .dead:=by cases o <;> simp [renO]
theorem RepA.anyL {m : Nat → Option Nat} {F : Nat → Prop} {L : Option Nat} {W : World} {v : AV} {w : Value} (h : RepA m F none W v w) : RepA m F L W v w:=by
  induction h with
  | imm d v h => exact .imm d v h
  | agg cs vs hl _ ih => exact .agg cs vs hl fun j d hj => ih j d hj
  | tup cs vs hl _ ih => exact .tup cs vs hl fun j d hj => ih j d hj
  | ref id sz lo n b a cap s h1 h2 h3 h4 h5 h6 h7 => exact .ref id sz lo n b a cap s h1 h2 h3 h4 h5 h6 h7
  | ptr id off b h => exact .ptr id off b h
  | clo f x y vx vy hx hy _ _ i1 i2 => exact .clo f x y vx vy hx hy (fun j d hj => i1 j d hj) fun j d hj => i2 j d hj
  | yield l h => cases h
  | map id b h => exact .map id b h
  | e0 sz a => exact .e0 sz a
  | junk v => exact .junk v
theorem RelO.anyL {m : Nat → Option Nat} {F : Nat → Prop} {L : Option Nat} {W : World} {b : Nat} {o : AO} (h : RelO m F none W b o) : RelO m F L W b o:=by
  cases o with
  | box cs => obtain ⟨c,t,h1,h2,hk,h3⟩:=h; exact ⟨c,t,h1,h2,hk,fun j d hj => (h3 j d hj).anyL⟩
  | _ => exact h
mutual
theorem flat_rep {F F' : Nat → Prop} {W W' : World} : ∀ (d : D) (v : Value),flatD d = true → RepD F W d v → RepD F' W' d v
  | .int k n,_,_,h => by cases h; constructor
  | .bool b,_,_,h => by cases h; constructor
  | .str s,_,_,h => by cases h; constructor
  | .nil,_,_,h => by cases h; constructor
  | .nilp,_,_,h => by cases h; constructor
  | .nilf,_,_,h => by cases h; constructor
  | .nilm,_,_,h => by cases h; constructor
  | .agg cs,_,hf,h => by
    cases h with
    | agg _ vs hl hr => exact .agg cs vs hl (flat_reps cs (fun j => vs.getD j undef) (by simpa [flatD] using hf) hr)
  | .tup cs,_,hf,h => by
    cases h with
    | tup _ vs hl hr => exact .tup cs vs hl (flat_reps cs (fun j => vs.getD j undef) (by simpa [flatD] using hf) hr)
  | .sl _ _,_,hf,_ => by simp [flatD] at hf
  | .ptr _,_,hf,_ => by simp [flatD] at hf
  | .fn _ _ _,_,hf,_ => by simp [flatD] at hf
theorem flat_reps {F F' : Nat → Prop} {W W' : World} : ∀ (l : List D) (c : Nat → Value),flatDL l = true → (∀ j d,l[j]? = some d → RepD F W d (c j)) → ∀ j d,l[j]? = some d → RepD F' W' d (c j)
  | [],_,_,_ => by simp
  | x :: r,c,hf,h => by
    simp only [flatDL,Bool.and_eq_true] at hf
    intro j d hj
    cases j with
    | zero => simp at hj; subst hj; exact flat_rep x (c 0) hf.1 (h 0 x (by simp))
    | succ j => exact flat_reps r (fun i => c (i + 1)) hf.2 (fun i e he => h (i + 1) e (by simpa using he)) j d (by simpa using hj)
end
end Go.Vm

/- Soundness: a value as plain data. -/
namespace Go.Vm
open Go
theorem dsOf_some : ∀ {vs : List AV} {ds : List D},dsOf vs = some ds → vs = ds.map .imm
  | [],ds,h => by simp [dsOf] at h; subst h; rfl
  | v :: r,ds,h => by
    cases v <;> simp only [dsOf] at h <;> try cases h
    rename_i d
    cases hr : dsOf r with
    | none => rw [hr] at h; cases h
    | some ds' =>
      rw [hr] at h; injection h with h; subst h
      rw [List.map_cons,← dsOf_some hr]
theorem dsOf_map : ∀ ds : List D,dsOf (ds.map .imm) = some ds
  | [] => rfl
  | d :: r => by simp [dsOf,dsOf_map r]
theorem chunks_len (sz : Nat) : ∀ (n : Nat) (l : List D),(chunks sz n l).length = n
  | 0,_ => rfl
  | n + 1,l => by simp [chunks,chunks_len sz n]
theorem chunks_get (sz : Nat) : ∀ (n : Nat) (l : List D) (i : Nat) (e : List D),(chunks sz n l)[i]? = some e → i < n ∧ e = (l.drop (i * sz)).take sz
  | 0,_,_,_,h => by simp [chunks] at h
  | n + 1,l,i,e,h => by
    cases i with
    | zero => simp [chunks] at h; exact ⟨by omega,by simp [h]⟩
    | succ i =>
      simp [chunks] at h
      obtain ⟨h1,h2⟩:=chunks_get sz n (l.drop sz) i e h
      refine ⟨by omega,?_⟩
      rw [h2,List.drop_drop]
      congr 2
      rw [Nat.succ_mul]; omega
theorem chunks_sz {sz n : Nat} {l : List D} (h : n * sz ≤ l.length) : ∀ e ∈ chunks sz n l,e.length = sz:=by
  intro e he
  obtain ⟨i,hi,hie⟩:=List.getElem_of_mem he
  obtain ⟨h1,h2⟩:=chunks_get sz n l i e (by rw [List.getElem?_eq_getElem hi,hie])
  rw [h2]
  have : (i + 1) * sz ≤ n * sz:=Nat.mul_le_mul_right _ (by omega)
  rw [Nat.succ_mul] at this
  simp; omega
theorem cell_of {W : World} {b : Nat} {c : Array Value} {t : TypeId} {fr : Nat × Nat} (h : W.heap[b]? = some (.cells c t fr)) {i : Nat} (hi : i < c.size) : W.cell? ⟨b,i,none⟩ = some (c.getD i undef):=by
  simp [World.cell?,h,hi]
theorem sto_get {st : List AO} {i : Nat} {o : AO} (h : st[i]? = some o) : sto st i = o:=by simp [sto,List.getD_eq_getElem?_getD,h]
theorem look {gb : Nat → Option (List D)} {m : Nat → Option Nat} {F : Nat → Prop} {L : Option Nat} {W : World} {stL : Sto} {st : List AO} {id b : Nat} {o : AO} (R : Rel gb m F L W stL) (hs0 : id < st.length → stL id = sto st id) (hg : st[id]? = some o) (hn : o ≠ .dead) (hm : m id = some b) : RelO m F L W b o:=by
  have hs:=hs0 (List.getElem?_eq_some_iff.1 hg).1
  rw [sto_get hg] at hs
  obtain ⟨b',h1,h2⟩:=R.hs id (by rw [hs]; exact hn)
  rw [hm] at h1
  obtain rfl:=Option.some.inj h1
  rwa [hs] at h2
theorem rep_row {F F' : Nat → Prop} {W : World} {b : Nat} {c : Array Value} {t : TypeId} {sz : Nat} {es : List (List D)} {lo n cap : Nat} {a : Addr}
    (h1 : W.heap[b]? = some (.cells c t (0,0))) (h2 : ∀ e ∈ es,e.length = sz) (h3 : es.length * sz ≤ c.size) (hk : ∀ k,k < es.length * sz → (c.getD k undef).oneCell' = true) (h4 : ∀ i e j d,es[i]? = some e → e[j]? = some d → RepD F W d (c.getD (i * sz + j) undef))
    (hb : a.block = b) (ha : a.spot = none) (ho : 0 < cap → a.off = lo * sz) (hn : n ≤ cap) (hle : lo + n ≤ es.length) (hF : ∀ b,F b → F' b) (hbF : F' b) :
    RepD F' W (.sl sz ((es.drop lo).take n)) (.slice (some a) n cap):=by
  have hl : ((es.drop lo).take n).length = n:=by simp; omega
  have key : ∀ i e j d,((es.drop lo).take n)[i]? = some e → e[j]? = some d → i < n ∧ es[lo + i]? = some e ∧ j < sz ∧ a.off + (i * sz + j) = (lo + i) * sz + j ∧ (lo + i) * sz + j < es.length * sz:=by
    intro i e j d h5 h6
    have hi : i < n:=by have:=(List.getElem?_eq_some_iff.1 h5).1; omega
    rw [List.getElem?_take,if_pos hi,List.getElem?_drop] at h5
    have hj : j < sz:=by rw [← h2 e (List.mem_of_getElem? h5)]; exact (List.getElem?_eq_some_iff.1 h6).1
    refine ⟨hi,h5,hj,by rw [ho (by omega),Nat.add_mul]; omega,?_⟩
    have : (lo + i + 1) * sz ≤ es.length * sz:=Nat.mul_le_mul_right _ (by omega)
    rw [Nat.succ_mul] at this; omega
  have:=RepD.sl (F:=F') (W:=W) sz ((es.drop lo).take n) a cap (fun i j => c.getD ((lo + i) * sz + j) undef) (fun _ => ha) (by omega)
    (fun e he => h2 e (List.mem_of_mem_drop (List.mem_of_mem_take he)))
    (fun i e j d h5 h6 => by
      obtain ⟨k1,k2,k3,k4,k5⟩:=key i e j d h5 h6
      exact ⟨hb ▸ hbF,by rw [hb,k4]; exact cell_of h1 (by omega),hk _ k5⟩)
    (fun i e j d h5 h6 => by
      obtain ⟨k1,k2,k3,k4,k5⟩:=key i e j d h5 h6
      exact (h4 (lo + i) e j d k2 h6).mono hF (fun _ _ => rfl))
  rwa [hl] at this
mutual
theorem deep_rep {gb : Nat → Option (List D)} {m : Nat → Option Nat} {F F' : Nat → Prop} {L : Option Nat} {W : World} {stL : Sto} {st : List AO} (R : Rel gb m F L W stL) (hF : ∀ b,F b → F' b) :
    ∀ (v : AV) (w : Value) (d : D),deep st v = some d → RepA m F L W v w → (∀ i ∈ ids v,i < st.length → stL i = sto st i) → (∀ i ∈ ids v,∀ b,m i = some b → F' b) → RepD F' W d w
  | .imm d,w,d',h,hr,_,_ => by
    simp only [deep] at h; injection h with h; subst h
    cases hr with
    | imm _ _ h => exact h.mono hF fun _ _ => rfl
  | .agg cs,w,d',h,hr,hS,hi => by
    simp only [deep] at h
    cases hc : deepL st cs with
    | none => rw [hc] at h; cases h
    | some ds =>
      rw [hc] at h; injection h with h; subst h
      cases hr with
      | agg _ vs hl hr =>
        obtain ⟨h1,h2⟩:=deep_reps R hF cs (fun j => vs.getD j undef) ds hc hr (by simpa [ids] using hS) (by simpa [ids] using hi)
        exact .agg ds vs (by omega) h2
  | .tup cs,w,d',h,hr,hS,hi => by
    simp only [deep] at h
    cases hc : deepL st cs with
    | none => rw [hc] at h; cases h
    | some ds =>
      rw [hc] at h; injection h with h; subst h
      cases hr with
      | tup _ vs hl hr =>
        obtain ⟨h1,h2⟩:=deep_reps R hF cs (fun j => vs.getD j undef) ds hc hr (by simpa [ids] using hS) (by simpa [ids] using hi)
        exact .tup ds vs (by omega) h2
  | .ref id sz lo n,w,d',h,hr,hS,hi => by
    cases hr with
    | ref _ _ _ _ b a cap s hm hb ha ho hs hle hn =>
      have hbF : F' b:=hi id (by simp [ids]) b hm
      simp only [deep] at h
      split at h
      · rename_i sz' es hst
        split at h
        · rename_i hc
          injection h with h; subst h
          obtain ⟨hsz,hlen⟩:=hc
          subst hsz
          have hR:=look R (hS id (by simp [ids])) hst (by simp) hm
          obtain ⟨c,t,h1,h2,h3,hk,h4⟩:=hR
          exact rep_row h1 h2 h3 hk h4 hb ha ho hn hlen hF hbF
        · cases h
      · rename_i sz' es hst
        split at h
        · rename_i hc
          injection h with h; subst h
          obtain ⟨hsz,hlen⟩:=hc
          subst hsz
          have hR:=look R (hS id (by simp [ids])) hst (by simp) hm
          obtain ⟨c,t,h1,h2,h3,hk,_,h4⟩:=hR
          exact rep_row h1 h2 h3 hk h4 hb ha ho hn hlen hF hbF
        · cases h
      · rename_i cs hst
        cases hc : dsOf cs with
        | none => rw [hc] at h; cases h
        | some ds =>
          rw [hc] at h
          simp only at h
          split at h
          · rename_i hlen
            injection h with h; subst h
            have hR:=look R (hS id (by simp [ids])) hst (by simp) hm
            obtain ⟨c,t,h1,h2,hk,h3⟩:=hR
            have hcs:=dsOf_some hc
            subst hcs
            simp only [List.length_map] at h2 hk
            have hl:=chunks_len sz n (ds.drop (lo * sz))
            have key : ∀ i e j d,(chunks sz n (ds.drop (lo * sz)))[i]? = some e → e[j]? = some d → i < n ∧ ds[lo * sz + (i * sz + j)]? = some d ∧ a.off = lo * sz:=by
              intro i e j d h5 h6
              obtain ⟨k1,k2⟩:=chunks_get _ _ _ _ _ h5
              subst k2
              have hj : j < sz:=by have:=(List.getElem?_eq_some_iff.1 h6).1; simp at this; omega
              rw [List.getElem?_take,if_pos hj,List.drop_drop,List.getElem?_drop] at h6
              exact ⟨k1,by rw [← h6]; congr 1; omega,ho (by omega)⟩
            have hsl:=RepD.sl (F:=F') (W:=W) sz (chunks sz n (ds.drop (lo * sz))) a cap (fun i j => c.getD (lo * sz + (i * sz + j)) undef) (fun _ => ha) (by omega)
              (chunks_sz (by rw [List.length_drop]; rw [Nat.add_mul] at hlen; omega))
              (fun i e j d h5 h6 => by
                obtain ⟨k1,k2,k3⟩:=key i e j d h5 h6
                have k4:=(List.getElem?_eq_some_iff.1 k2).1
                exact ⟨hb ▸ hbF,by rw [hb,k3]; exact cell_of h1 (by omega),hk _ k4⟩)
              (fun i e j d h5 h6 => by
                obtain ⟨k1,k2,k3⟩:=key i e j d h5 h6
                have:=h3 (lo * sz + (i * sz + j)) (.imm d) (by simp [k2])
                cases this with
                | imm _ _ h => exact h.mono hF fun _ _ => rfl)
            rwa [hl] at hsl
          · cases h
      · cases h
  | .ptr id off,w,d',h,hr,hS,hi => by
    cases hr with
    | ptr _ _ b hm =>
      have hbF : F' b:=hi id (by simp [ids]) b hm
      simp only [deep,rdBox] at h
      have fin : ∀ (c : Array Value) (t : TypeId) (cs : List AV) (ds : List D),W.heap[b]? = some (.cells c t (0,0)) → cs.length ≤ c.size → (∀ j,j < cs.length → (c.getD j undef).oneCell' = true) → dsOf (cs.drop off) = some ds →
          (∀ j d,cs[j]? = some (.imm d) → RepD F W d (c.getD j undef)) → RepD F' W (.ptr ds) (.pointer (some ⟨b,off,none⟩)):=by
        intro c t cs ds h1 h2 hk hd h3
        have hcs:=dsOf_some hd
        have key : ∀ j d,ds[j]? = some d → cs[off + j]? = some (.imm d):=by
          intro j d hj
          have : (cs.drop off)[j]? = some (.imm d):=by rw [hcs]; simp [hj]
          rwa [List.getElem?_drop] at this
        exact .ptr ds ⟨b,off,none⟩ (fun j => c.getD (off + j) undef) rfl
          (fun j d hj => ⟨hbF,by
            have hlt:=(List.getElem?_eq_some_iff.1 (key j d hj)).1
            exact ⟨cell_of (i:=off + j) h1 (by omega),hk _ (by omega)⟩⟩)
          (fun j d hj => (h3 (off + j) d (key j d hj)).mono hF fun _ _ => rfl)
      split at h
      · rename_i cs hst
        split at hst
        · rename_i cs' hst'
          injection hst with hst; subst hst
          cases hd : dsOf (cs'.drop off) with
          | none => rw [hd] at h; cases h
          | some ds =>
            rw [hd] at h; injection h with h; subst h
            have hR:=look R (hS id (by simp [ids])) hst' (by simp) hm
            obtain ⟨c,t,h1,h2,hk,h3⟩:=hR
            exact fin c t cs' ds h1 (Nat.le_of_eq h2) hk hd fun j d hj => by cases h3 j _ hj with | imm _ _ h => exact h
        · rename_i cs' hst'
          injection hst with hst; subst hst
          cases hd : dsOf ((cs'.map AV.imm).drop off) with
          | none => rw [hd] at h; cases h
          | some ds =>
            rw [hd] at h; injection h with h; subst h
            have hR:=look R (hS id (by simp [ids])) hst' (by simp) hm
            obtain ⟨c,t,h1,h2,hk,_,h3⟩:=hR
            exact fin c t _ ds h1 (by simpa using (Nat.le_of_eq h2)) (by simpa using hk) hd fun j d hj => h3 j d (by simpa using hj)
        · cases hst
      · cases h
  | .clo f x y,w,d',h,hr,hS,hi => by
    simp only [deep] at h
    cases hx : deepL st x with
    | none => rw [hx] at h; cases h
    | some dx =>
      cases hy : deepL st y with
      | none => rw [hx,hy] at h; cases h
      | some dy =>
        rw [hx,hy] at h; injection h with h; subst h
        cases hr with
        | clo _ _ _ vx vy lx ly rx ry =>
          simp only [ids,List.mem_append] at hi hS
          obtain ⟨h1,h2⟩:=deep_reps R hF x (fun j => vx.getD j undef) dx hx rx (fun i h => hS i (.inl h)) fun i h => hi i (.inl h)
          obtain ⟨h3,h4⟩:=deep_reps R hF y (fun j => vy.getD j undef) dy hy ry (fun i h => hS i (.inr h)) fun i h => hi i (.inr h)
          exact .fn f dx dy vx vy (by omega) (by omega) h2 h4
  | .e0 sz,w,d',h,hr,_,_ => by
    simp only [deep] at h; injection h with h; subst h
    cases hr with
    | e0 _ a => exact .sl sz [] a 0 (fun _ _ => undef) (fun h => absurd rfl h) (by simp) (by simp) (by simp) (by simp)
  | .yield,_,_,h,_,_,_ => by simp [deep] at h
  | .map _,_,_,h,_,_,_ => by simp [deep] at h
  | .junk,_,_,h,_,_,_ => by simp [deep] at h
theorem deep_reps {gb : Nat → Option (List D)} {m : Nat → Option Nat} {F F' : Nat → Prop} {L : Option Nat} {W : World} {stL : Sto} {st : List AO} (R : Rel gb m F L W stL) (hF : ∀ b,F b → F' b) :
    ∀ (l : List AV) (c : Nat → Value) (ds : List D),deepL st l = some ds → (∀ j v,l[j]? = some v → RepA m F L W v (c j)) → (∀ i ∈ idsL l,i < st.length → stL i = sto st i) → (∀ i ∈ idsL l,∀ b,m i = some b → F' b) →
      ds.length = l.length ∧ ∀ j d,ds[j]? = some d → RepD F' W d (c j)
  | [],_,ds,h,_,_,_ => by simp [deepL] at h; subst h; simp
  | v :: r,c,ds,h,hr,hS,hi => by
    simp only [deepL] at h
    cases hv : deep st v with
    | none => rw [hv] at h; cases h
    | some d =>
      cases hd : deepL st r with
      | none => rw [hv,hd] at h; cases h
      | some ds' =>
        rw [hv,hd] at h; injection h with h; subst h
        simp only [idsL,List.mem_append] at hi hS
        obtain ⟨h1,h2⟩:=deep_reps R hF r (fun j => c (j + 1)) ds' hd (fun j v hj => hr (j + 1) v (by simpa using hj)) (fun i h => hS i (.inr h)) fun i h => hi i (.inr h)
        refine ⟨by simp [h1],fun j d' hj => ?_⟩
        cases j with
        | zero => simp at hj; subst hj; exact deep_rep R hF v (c 0) d hv (hr 0 v (by simp)) (fun i h => hS i (.inl h)) fun i h => hi i (.inl h)
        | succ j => exact h2 j d' (by simpa using hj)
end
end Go.Vm

/- Soundness: operations that write nothing,first part (values,arithmetic,addresses,reading). -/
namespace Go.Vm
open Go
def QPost (gb : Nat → Option (List D)) (m : Nat → Option Nat) (F : Nat → Prop) (L : Option Nat) (W : World) (st : Sto) (nid : Nat) (v : AV) (news : List AO) (w : Value) (W' : World) : Prop :=
  ∃ m' F',Grow (fun _ => False) m F W m' F' W' ∧ Rel gb m' F' L W' (put st nid news) ∧ RepA m' F' L W' v w ∧
    ∀ i b,m' i = some b → m i = some b ∨ (W.heap.size ≤ b ∧ nid ≤ i ∧ i < nid + news.length)
def OprOk (C : Ctx) (m : Nat → Option Nat) (F : Nat → Prop) (L : Option Nat) (W : World) (o : Oper) (a : Act) (vars env : List AV) : Prop :=
  ∀ x x',x ∈ o.op.operands → compO C x = some x' → RepA m F L W (opnd vars env x') (a.eval x)
section
variable {P : Program} {gb : Nat → Option (List D)} {C : Ctx} {o : Oper} {a : Act} {W : World} {m : Nat → Option Nat} {F : Nat → Prop} {L : Option Nat} {stL : Sto} {st : List AO} {vars env : List AV} {nid : Nat} {ro : Option Nat} {lo : Lower}
theorem QPost.val (R : Rel gb m F L W stL) {v : AV} {w : Value} (h : RepA m F L W v w) : QPost gb m F L W stL nid v [] w W :=
  ⟨m,F,Grow.refl _ _ _ _,by rw [put_nil]; exact R,h,fun _ _ h => .inl h⟩
theorem Ok.qval (R : Rel gb m F L W stL) {v : AV} {w : Value} (hd : ∀ c,o.op ≠ .defer c) (hr : (execOp a.eval o).run P W = .ok (.value w) W) (h : RepA m F L W v w) :
    Ok P ro o a W (QPost gb m F L W stL nid v []):=Ok.val hd hr (QPost.val R h)
theorem imm_int {k : IntKind} {n : Int} {w : Value} (h : RepA m F L W (.imm (.int k n)) w) : w = .int k n:=by cases h with | imm _ _ h => cases h; rfl
theorem imm_bool {b : Bool} {w : Value} (h : RepA m F L W (.imm (.bool b)) w) : w = .bool b:=by cases h with | imm _ _ h => cases h; rfl
theorem rint (k : IntKind) (n : Int) : RepA m F L W (.imm (.int k n)) (.int k n):=.imm _ _ (.int k n)
theorem rbool (b : Bool) : RepA m F L W (.imm (.bool b)) (.bool b):=.imm _ _ (.bool b)
theorem q_move {x : Operand} {x' : Opnd} (ho : o.op = .move x ∨ o.op = .assign x) (hx : compO C x = some x') (R : Rel gb m F L W stL) (hr : OprOk C m F L W o a vars env) :
    Ok P ro o a W (QPost gb m F L W stL nid (opnd vars env x') []):=by
  rcases ho with ho | ho
  · exact Ok.qval R (by rw [ho]; simp) (by simp [execOp,ho]) (hr x x' (by rw [ho]; simp [Op.operands]) hx)
  · exact Ok.qval R (by rw [ho]; simp) (by simp [execOp,ho]) (hr x x' (by rw [ho]; simp [Op.operands]) hx)
theorem sq_pick {c x y : Operand} {c' x' y' : Opnd} {t : Bool} (ho : o.op = .pick c x y) (hc : compO C c = some c') (hx : compO C x = some x') (hy : compO C y = some y') (R : Rel gb m F L W stL) (hr : OprOk C m F L W o a vars env)
    (ht : opnd vars env c' = .imm (.bool t)) : Ok P ro o a W (QPost gb m F L W stL nid (match t with | true => opnd vars env x' | false => opnd vars env y') []):=by
  have h1:=imm_bool (ht ▸ hr c c' (by rw [ho]; simp [Op.operands]) hc)
  have h2:=hr x x' (by rw [ho]; simp [Op.operands]) hx
  have h3:=hr y y' (by rw [ho]; simp [Op.operands]) hy
  cases t with
  | true => exact Ok.qval R (by rw [ho]; simp) (by simp [execOp,ho,h1,asBool]) h2
  | false => exact Ok.qval R (by rw [ho]; simp) (by simp [execOp,ho,h1,asBool]) h3
theorem wrp_eq (k : IntKind) (n : Int) : wrp k n = k.wrap n:=by
  cases k <;> simp only [wrp]
  split
  · rename_i h
    have h2 : IntKind.wrap .i64 n = if n % 18446744073709551616 ≥ 9223372036854775808 then n % 18446744073709551616 - 18446744073709551616 else n % 18446744073709551616:=by simp [IntKind.wrap,IntKind.signed,IntKind.bits]
    rw [h2]
    split <;> omega
  · rfl
theorem run_bin {op : BinOp} {t : TypeId} {k k' : IntKind} {x y : Int} {v : AV} (h : aBin op (.imm (.int k x)) (.imm (.int k' y)) = some v) : ∃ w,(binOp op t (.int k x) (.int k' y)).run P W = .ok w W ∧ RepA m F L W v w:=by
  have sh : ∀ op',(shiftI op' k x y).map AV.imm = some v → ∃ w,(Op.shift op' k x k' y).run P W = .ok w W ∧ RepA m F L W v w:=by
    intro op' h
    unfold shiftI at h
    split at h
    · cases h
    · rename_i hy
      cases op' <;> simp only [Option.map_some,Option.map_none,Option.some.injEq,reduceCtorEq] at h <;> subst h <;> refine ⟨_,?_,rint _ _⟩ <;> simp [Op.shift,hy,wrp_eq]
  cases op
  case shl => exact sh .shl h
  case shr => exact sh .shr h
  all_goals
    simp only [aBin] at h
    split at h
    case isFalse => cases h
    rename_i hk
    subst hk
    simp only [binI] at h
  case quo =>
    split at h
    · cases h
    · rename_i hy
      simp only [Option.map_some,Option.some.injEq] at h
      subst h
      exact ⟨.int k (k.wrap (x.tdiv y)),by simp [binOp,Op.intDiv,hy],by rw [wrp_eq]; exact rint _ _⟩
  case rem =>
    split at h
    · cases h
    · rename_i hy
      simp only [Option.map_some,Option.some.injEq] at h
      subst h
      exact ⟨.int k (x.tmod y),by simp [binOp,Op.intDiv,hy],rint _ _⟩
  all_goals
    simp only [Option.map_some,Option.some.injEq] at h
    subst h
    first
      | exact ⟨_,(by simp only [binOp,ne_eq,not_true_eq_false,if_false]; rfl),by rw [wrp_eq]; exact rint _ _⟩
      | exact ⟨_,(by simp only [binOp,ne_eq,not_true_eq_false,if_false]; rfl),rbool _⟩
theorem run_guard_int {op : BinOp} {t : TypeId} {x y : Operand} {k k' : IntKind} {p q : Int} : (eqGuard op t x y (.int k p) (.int k' q)).run P W = .ok () W:=by
  cases op <;> simp [eqGuard]
theorem sq_bin {op : BinOp} {t u : TypeId} {x y : Operand} {x' y' : Opnd} {v : AV} (ho : o.op = .binOp op t x y u) (hx : compO C x = some x') (hy : compO C y = some y') (R : Rel gb m F L W stL) (hr : OprOk C m F L W o a vars env)
    (h : aBin op (opnd vars env x') (opnd vars env y') = some v) : Ok P ro o a W (QPost gb m F L W stL nid v []):=by
  have h2:=hr x x' (by rw [ho]; simp [Op.operands]) hx
  have h3:=hr y y' (by rw [ho]; simp [Op.operands]) hy
  have h0:=h
  unfold aBin at h0
  split at h0
  · rename_i k p k' q e1 e2
    rw [e1] at h2; rw [e2] at h3
    rw [e1,e2] at h
    obtain ⟨w,hw,hv⟩:=run_bin (P:=P) (W:=W) (t:=t) (m:=m) (F:=F) (L:=L) h
    exact Ok.qval R (by rw [ho]; simp) (by simp [execOp,ho,imm_int h2,imm_int h3,run_guard_int,hw]) hv
  · cases h0
theorem sq_un {op : UnOp} {t : TypeId} {x : Operand} {x' : Opnd} {v : AV} (ho : o.op = .unOp op t x) (hx : compO C x = some x') (R : Rel gb m F L W stL) (hr : OprOk C m F L W o a vars env)
    (h : aUn op (opnd vars env x') = some v) : Ok P ro o a W (QPost gb m F L W stL nid v []):=by
  have h2:=hr x x' (by rw [ho]; simp [Op.operands]) hx
  unfold aUn at h
  split at h
  · rename_i k n e
    rw [e] at h2
    injection h with h; subst h
    exact Ok.qval R (by rw [ho]; simp) (w:=.int k (k.wrap (0 - n))) (by simp [execOp,ho,imm_int h2,Op.unary,Op.intArith]) (by rw [wrp_eq]; exact rint _ _)
  · rename_i b e
    rw [e] at h2
    injection h with h; subst h
    exact Ok.qval R (by rw [ho]; simp) (w:=.bool (!b)) (by simp [execOp,ho,imm_bool h2,Op.unary]) (rbool _)
  · cases h
theorem sq_conv {s d : TypeId} {x : Operand} {x' : Opnd} {k j k0 : IntKind} {n : Int} (ho : o.op = .convert s d x) (hs : P.underlying s = some (.int j)) (hd : P.underlying d = some (.int k)) (hx : compO C x = some x')
    (R : Rel gb m F L W stL) (hr : OprOk C m F L W o a vars env) (h : opnd vars env x' = .imm (.int k0 n)) : Ok P ro o a W (QPost gb m F L W stL nid (.imm (.int k (wrp k n))) []):=by
  have h2:=hr x x' (by rw [ho]; simp [Op.operands]) hx
  rw [h] at h2
  refine Ok.qval R (by rw [ho]; simp) (w:=.int k (k.wrap n)) ?_ (by rw [wrp_eq]; exact rint _ _)
  simp [execOp,ho,imm_int h2,convert,run_und hs,run_und hd,Conv.intToInt]
theorem sq_nilck {x : Operand} {x' : Opnd} {v : AV} (ho : o.op = .nilCheck x) (hx : compO C x = some x') (R : Rel gb m F L W stL) (hr : OprOk C m F L W o a vars env)
    (h : (match opnd vars env x' with | .ptr id off => some (AV.ptr id off) | .imm (.ptr cs) => some (.imm (.ptr cs)) | _ => none) = some v) : Ok P ro o a W (QPost gb m F L W stL nid v []):=by
  have h2:=hr x x' (by rw [ho]; simp [Op.operands]) hx
  split at h
  · rename_i id off e
    injection h with h; subst h
    rw [e] at h2
    obtain ⟨p,hp⟩ : ∃ p,a.eval x = .pointer (some p):=by generalize a.eval x = w at h2; cases h2; exact ⟨_,rfl⟩
    exact Ok.qval R (by rw [ho]; simp) (by simp [execOp,ho,hp]) (hp ▸ h2)
  · rename_i cs e
    injection h with h; subst h
    rw [e] at h2
    obtain ⟨p,hp⟩ : ∃ p,a.eval x = .pointer (some p):=by generalize a.eval x = w at h2; cases h2 with | imm _ _ h => cases h; exact ⟨_,rfl⟩
    exact Ok.qval R (by rw [ho]; simp) (by simp [execOp,ho,hp]) (hp ▸ h2)
  · cases h
theorem mem_range_map {n : Nat} {f : Nat → Value} {j : Nat} (h : j < n) : ((List.range n).map f).toArray.getD j undef = f j:=by
  simp [h]
theorem rep_mkAgg {cs : List AV} {vs : Array Value} (hl : vs.size = cs.length) (hr : ∀ j d,cs[j]? = some d → RepA m F L W d (vs.getD j undef)) : RepA m F L W (mkAgg cs) (.agg vs):=by
  unfold mkAgg
  cases hd : dsOf cs with
  | none => exact .agg cs vs hl hr
  | some ds =>
    have e:=dsOf_some hd
    subst e
    refine .imm _ _ (.agg ds vs (by simpa using hl) fun j d hj => ?_)
    have:=hr j (.imm d) (by simp [hj])
    cases this with | imm _ _ h => exact h
theorem rep_mkTup {cs : List AV} {vs : Array Value} (hl : vs.size = cs.length) (hr : ∀ j d,cs[j]? = some d → RepA m F L W d (vs.getD j undef)) : RepA m F L W (mkTup cs) (.tuple vs):=by
  unfold mkTup
  cases hd : dsOf cs with
  | none => exact .tup cs vs hl hr
  | some ds =>
    have e:=dsOf_some hd
    subst e
    refine .imm _ _ (.tup ds vs (by simpa using hl) fun j d hj => ?_)
    have:=hr j (.imm d) (by simp [hj])
    cases this with | imm _ _ h => exact h
theorem load_rep (R : Rel gb m F L W stL) {t : TypeId} {g : Bool} {n : Nat} {p : AV} {w : Value} {v : AV} (hg : isAggB P t = some g) (hn : sizeB P t = some n) (hp : RepA m F L W p w) (hS : ∀ i ∈ ids p,i < st.length → stL i = sto st i) (h : aLoad st g n p = some v) :
    ∃ u,(Instr.loadAt t w).run P W = .ok u W ∧ RepA m F L W v u:=by
  -- with the cells known from some place on
  have fin : ∀ (b o : Nat) (f : Nat → Value) (cs : List AV),(∀ j,j < n → W.cell? ⟨b,o + j,none⟩ = some (f j)) → (∀ j d,cs[j]? = some d → RepA m F L W d (f j)) → n ≤ cs.length →
      (if g then some (mkAgg (cs.take n)) else if n = 1 then cs[0]? else none) = some v → ∃ u,(Instr.loadAt t (.pointer (some ⟨b,o,none⟩))).run P W = .ok u W ∧ RepA m F L W v u:=by
    intro b o f cs hc hr hlen hv
    have hn1 : g = false → n = 1:=by
      intro hg0; subst hg0
      simp at hv; exact hv.1
    refine ⟨_,by simp only [Instr.loadAt,Instr.sureAddr,Sem.run_bind,Sem.run_pure,Result.andThen_ok]; exact run_loadVarB hg hn f hn1 hc,?_⟩
    cases g with
    | true =>
      simp at hv; subst hv
      simp only [if_true]
      refine rep_mkAgg (by simp; omega) fun j d hj => ?_
      have hjn : j < n:=by have:=(List.getElem?_eq_some_iff.1 hj).1; simp at this; omega
      rw [mem_range_map hjn]
      exact hr j d (by rwa [List.getElem?_take,if_pos hjn] at hj)
    | false =>
      simp at hv
      simpa using hr 0 v hv.2
  unfold aLoad at h
  split at h
  · rename_i cs
    cases hp with
    | imm _ _ hp =>
      cases hp with
      | ptr _ q c ha hc hr =>
        rw [addr_none ha]
        split at h
        · rename_i hlen
          refine fin q.block q.off c (cs.map .imm) (fun j hj => (hc j _ (List.getElem?_eq_getElem (by omega))).2.1) (fun j d hj => ?_) (by simpa using hlen) ?_
          · simp only [List.getElem?_map,Option.map_eq_some_iff] at hj
            obtain ⟨d0,h0,rfl⟩:=hj
            exact .imm _ _ (hr j d0 h0)
          · cases g with
            | true => simp only [if_true] at h ⊢; rw [← List.map_take]; simp only [mkAgg,dsOf_map]; exact h
            | false => simpa using h
        · cases h
  · rename_i id off
    cases hp with
    | ptr _ _ b hm =>
      split at h
      · rename_i cs hcs
        split at h
        · rename_i hlen
          have hv : (if g = true then some (mkAgg ((cs.drop off).take n)) else if n = 1 then (cs.drop off)[0]? else none) = some v:=by
            rw [← h]
            simp [List.getElem?_drop]
          unfold rdBox at hcs
          split at hcs
          · rename_i cs' hst
            injection hcs with hcs; subst hcs
            have hR:=look R (hS id (by simp [ids])) hst (by simp) hm
            obtain ⟨c,ty,h1,h2,_,h3⟩:=hR
            exact fin b off (fun j => c.getD (off + j) undef) (cs'.drop off) (fun j hj => cell_of h1 (by omega)) (fun j d hj => h3 (off + j) d (by rwa [List.getElem?_drop] at hj)) (by simp; omega) hv
          · rename_i cs' hst
            injection hcs with hcs; subst hcs
            have hR:=look R (hS id (by simp [ids])) hst (by simp) hm
            obtain ⟨c,ty,h1,h2,_,_,h3⟩:=hR
            simp only [List.length_map] at hlen
            refine fin b off (fun j => c.getD (off + j) undef) ((cs'.map .imm).drop off) (fun j hj => cell_of h1 (by omega)) (fun j d hj => ?_) (by simp; omega) hv
            rw [List.getElem?_drop,List.getElem?_map,Option.map_eq_some_iff] at hj
            obtain ⟨d0,h0,rfl⟩:=hj
            exact .imm _ _ (h3 (off + j) d0 h0)
          · cases hcs
        · cases h
      · split at h
        · rename_i sz es hes
          split at h
          · rename_i e he
            split at h
            · rename_i hlen
              have hv : (if g = true then some (mkAgg (((e.drop (off % sz)).map AV.imm).take n)) else if n = 1 then ((e.drop (off % sz)).map AV.imm)[0]? else none) = some v:=by
                rw [← h]
                cases g with
                | true => simp only [if_true]; rw [← List.map_take]; simp only [mkAgg,dsOf_map]
                | false => simp [List.getElem?_drop]
              have go : ∀ (c : Array Value) (ty : TypeId),W.heap[b]? = some (.cells c ty (0,0)) → (∀ e ∈ es,e.length = sz) → es.length * sz ≤ c.size →
                  (∀ i e j d,es[i]? = some e → e[j]? = some d → RepD F W d (c.getD (i * sz + j) undef)) → ∃ u,(Instr.loadAt t (.pointer (some ⟨b,off,none⟩))).run P W = .ok u W ∧ RepA m F L W v u:=by
                intro c ty h1 h2 h3 h4
                have hsz : e.length = sz:=h2 e (List.mem_of_getElem? he)
                have hi : off / sz < es.length:=(List.getElem?_eq_some_iff.1 he).1
                have hoff : off / sz * sz + off % sz = off:=by rw [Nat.mul_comm]; exact Nat.div_add_mod off sz
                have hle : (off / sz + 1) * sz ≤ es.length * sz:=Nat.mul_le_mul_right _ (by omega)
                rw [Nat.succ_mul] at hle
                refine fin b off (fun j => c.getD (off + j) undef) ((e.drop (off % sz)).map .imm) (fun j hj => cell_of h1 (by omega)) (fun j d hj => ?_) (by simp; omega) hv
                rw [List.getElem?_map,Option.map_eq_some_iff] at hj
                obtain ⟨d0,h0,rfl⟩:=hj
                rw [List.getElem?_drop] at h0
                have:=h4 (off / sz) e (off % sz + j) d0 he h0
                rw [← Nat.add_assoc,hoff] at this
                exact .imm _ _ this
              unfold rdArr at hes
              split at hes
              · rename_i sz' es' hst
                injection hes with hes; injection hes with e1 e2; subst e1; subst e2
                have hR:=look R (hS id (by simp [ids])) hst (by simp) hm
                obtain ⟨c,ty,h1,h2,h3,_,h4⟩:=hR
                exact go c ty h1 h2 h3 h4
              · rename_i sz' es' hst
                injection hes with hes; injection hes with e1 e2; subst e1; subst e2
                have hR:=look R (hS id (by simp [ids])) hst (by simp) hm
                obtain ⟨c,ty,h1,h2,h3,_,_,h4⟩:=hR
                exact go c ty h1 h2 h3 h4
              · cases hes
            · cases h
          · cases h
        · cases h
  · cases h
end
end Go.Vm

/- Soundness: operations that write nothing,second part. -/
namespace Go.Vm
open Go
section
variable {P : Program} {gb : Nat → Option (List D)} {C : Ctx} {o : Oper} {a : Act} {W : World} {m : Nat → Option Nat} {F : Nat → Prop} {L : Option Nat} {stL : Sto} {st : List AO} {vars env : List AV} {nid : Nat} {ro : Option Nat} {lo : Lower}
theorem rep_aggOf {v : AV} {cs : List AV} {w : Value} (h : aggOf v = some cs) (hr : RepA m F L W v w) : ∃ vs,w = .agg vs ∧ vs.size = cs.length ∧ ∀ j d,cs[j]? = some d → RepA m F L W d (vs.getD j undef):=by
  unfold aggOf at h
  split at h
  · rename_i ds
    injection h with h; subst h
    cases hr with
    | imm _ _ hr =>
      cases hr with
      | agg _ vs hl hr =>
        refine ⟨vs,rfl,by simpa using hl,fun j d hj => ?_⟩
        simp only [List.getElem?_map,Option.map_eq_some_iff] at hj
        obtain ⟨d0,h0,rfl⟩:=hj
        exact .imm _ _ (hr j d0 h0)
  · injection h with h; subst h
    cases hr with
    | agg _ vs hl hr => exact ⟨vs,rfl,hl,hr⟩
  · cases h
theorem rep_cellsOf {v : AV} {w : Value} (hs : (cellsOf v).all single = true) (hr : RepA m F L W v w) : w.cells.size = (cellsOf v).length ∧ ∀ j d,(cellsOf v)[j]? = some d → RepA m F L W d (w.cells.getD j undef):=by
  by_cases hg : ∃ cs,aggOf v = some cs
  · obtain ⟨cs,hc⟩:=hg
    obtain ⟨vs,rfl,hl,hr'⟩:=rep_aggOf hc hr
    have e : cellsOf v = cs:=by
      unfold aggOf at hc
      split at hc
      · injection hc with hc
      · injection hc with hc
      · cases hc
    rw [e]; exact ⟨hl,hr'⟩
  · have e : cellsOf v = [v]:=by
      unfold cellsOf
      split
      · rename_i ds; exact absurd ⟨_,rfl⟩ hg
      · rename_i cs; exact absurd ⟨_,rfl⟩ hg
      · rfl
    rw [e] at hs ⊢
    have hw : w.cells = #[w]:=by
      cases hr <;> try rfl
      · rename_i d hd
        cases hd <;> first | rfl | (exact absurd ⟨_,rfl⟩ hg)
      · exact absurd ⟨_,rfl⟩ hg
      · simp [single] at hs
    rw [hw]
    refine ⟨by simp,fun j d hj => ?_⟩
    cases j with
    | zero => simp at hj; subst hj; simpa using hr
    | succ j => simp at hj
theorem oneCell_repD {d : D} {w : Value} (hs : single (.imm d) = true) (hr : RepD F W d w) : w.oneCell' = true:=by
  cases hr <;> first | rfl | simp [single] at hs
theorem oneCell_rep {v : AV} {w : Value} (hs : single v = true) (hr : RepA m F L W v w) : w.oneCell' = true:=by
  cases hr with
  | imm _ _ hr => exact oneCell_repD hs hr
  | agg => simp [single] at hs
  | tup => simp [single] at hs
  | junk => simp [single] at hs
  | _ => rfl
theorem sq_load {t : TypeId} {g : Bool} {n : Nat} {x : Operand} {x' : Opnd} {v : AV} (ho : o.op = .load t x) (hg : isAggB P t = some g) (hn : sizeB P t = some n) (hx : compO C x = some x') (R : Rel gb m F L W stL) (hr : OprOk C m F L W o a vars env)
    (hS : ∀ i ∈ ids (opnd vars env x'),i < st.length → stL i = sto st i) (h : aLoad st g n (opnd vars env x') = some v) : Ok P ro o a W (QPost gb m F L W stL nid v []):=by
  obtain ⟨u,hu,hv⟩:=load_rep R hg hn (hr x x' (by rw [ho]; simp [Op.operands]) hx) hS h
  exact Ok.qval R (by rw [ho]; simp) (by simp [execOp,ho,hu]) hv
theorem run_fieldAt {t : TypeId} {fs : Array Field} {i : Nat} {f : Field} {n : Nat} {p : Addr} (hu : P.underlying t = some (.struct fs)) (hf : fs[i]? = some f) (hn : sizeB P f.type = some n) (h0 : n ≠ 0) :
    (Instr.fieldAt t (.pointer (some p)) i).run P W = .ok (.pointer (some (p.add f.offset))) W:=by
  simp [Instr.fieldAt,run_und hu,hf,Instr.sureAddr,fieldPlace,run_sizeB hn,h0]
theorem sq_faddr {t : TypeId} {fs : Array Field} {i : Nat} {f : Field} {n : Nat} {x : Operand} {x' : Opnd} {v : AV} (ho : o.op = .fieldAddr t x i) (hu : P.underlying t = some (.struct fs)) (hf : fs[i]? = some f) (hn : sizeB P f.type = some n) (h0 : n ≠ 0) (hx : compO C x = some x')
    (R : Rel gb m F L W stL) (hr : OprOk C m F L W o a vars env)
    (h : (match opnd vars env x' with | .ptr id b => some (AV.ptr id (b + f.offset)) | .imm (.ptr cs) => some (.imm (.ptr (cs.drop f.offset))) | _ => none) = some v) : Ok P ro o a W (QPost gb m F L W stL nid v []):=by
  have h2:=hr x x' (by rw [ho]; simp [Op.operands]) hx
  generalize hw : a.eval x = w at h2
  split at h
  · rename_i id b e
    injection h with h; subst h
    rw [e] at h2
    cases h2 with
    | ptr _ _ b' hm =>
      refine Ok.qval R (by rw [ho]; simp) (w:=.pointer (some ⟨b',b + f.offset,none⟩)) ?_ (.ptr _ _ _ hm)
      simp [execOp,ho,hw,run_fieldAt hu hf hn h0,add_none]
  · rename_i cs e
    injection h with h; subst h
    rw [e] at h2
    cases h2 with
    | imm _ _ h2 =>
      cases h2 with
      | ptr _ q c ha hc hr' =>
        refine Ok.qval R (by rw [ho]; simp) (w:=.pointer (some (q.add f.offset))) (by simp [execOp,ho,hw,run_fieldAt hu hf hn h0]) ?_
        rw [addr_none ha,add_none]
        refine .imm _ _ (.ptr _ ⟨q.block,q.off + f.offset,none⟩ (fun j => c (f.offset + j)) rfl (fun j d hj => ?_) fun j d hj => ?_)
        · rw [List.getElem?_drop] at hj
          have:=hc _ d hj
          simpa [Nat.add_assoc] using this
        · rw [List.getElem?_drop] at hj
          exact hr' _ d hj
  · cases h
theorem part_rep {t : TypeId} {g : Bool} {n off : Nat} {cs : List AV} {vs : Array Value} {v : AV} (hg : isAggB P t = some g) (hn : sizeB P t = some n) (hl : vs.size = cs.length) (hr : ∀ j d,cs[j]? = some d → RepA m F L W d (vs.getD j undef)) (hle : off + n ≤ cs.length)
    (h : (if g then some (mkAgg ((cs.drop off).take n)) else if n = 1 then cs[off]? else none) = some v) : ∃ u,(part t vs off).run P W = .ok u W ∧ RepA m F L W v u:=by
  cases g with
  | true =>
    simp only [if_true,Option.some.injEq] at h
    subst h
    refine ⟨.agg (vs.extract off (off + n)),by simp [part,run_aggB hg,run_sizeB hn],rep_mkAgg (by simp; omega) fun j d hj => ?_⟩
    have hjn : j < n:=by have:=(List.getElem?_eq_some_iff.1 hj).1; simp at this; omega
    rw [List.getElem?_take,if_pos hjn,List.getElem?_drop] at hj
    have h3:=hr (off + j) d hj
    have : off + j < vs.size:=by omega
    have e : (vs.extract off (off + n)).getD j undef = vs.getD (off + j) undef:=by
      simp [this,show j < min (off + n) vs.size - off by omega]
    rw [e]; exact h3
  | false =>
    simp only [Bool.false_eq_true,if_false] at h
    split at h
    · have h3:=hr off v h
      have : off < vs.size:=by omega
      refine ⟨vs[off],by simp [part,run_aggB hg,this],?_⟩
      simpa [this] using h3
    · cases h
theorem sq_field {t : TypeId} {fs : Array Field} {i : Nat} {f : Field} {g : Bool} {n : Nat} {x : Operand} {x' : Opnd} {v : AV} {cs : List AV} (ho : o.op = .field t x i) (hu : P.underlying t = some (.struct fs)) (hf : fs[i]? = some f) (hg : isAggB P f.type = some g) (hn : sizeB P f.type = some n) (hx : compO C x = some x')
    (R : Rel gb m F L W stL) (hr : OprOk C m F L W o a vars env) (hc : aggOf (opnd vars env x') = some cs) (hle : f.offset + n ≤ cs.length)
    (h : (if g then some (mkAgg ((cs.drop f.offset).take n)) else if n = 1 then cs[f.offset]? else none) = some v) : Ok P ro o a W (QPost gb m F L W stL nid v []):=by
  obtain ⟨vs,hw,hl,hr'⟩:=rep_aggOf hc (hr x x' (by rw [ho]; simp [Op.operands]) hx)
  obtain ⟨u,hu',hv⟩:=part_rep (P:=P) hg hn hl hr' hle h
  exact Ok.qval R (by rw [ho]; simp) (by simp [execOp,ho,hw,Instr.field,run_und hu,hf,asAgg,hu']) hv
theorem sq_index {t e : TypeId} {len : Nat} {g : Bool} {sz : Nat} {x y : Operand} {x' y' : Opnd} {v : AV} {cs : List AV} {k : IntKind} {i : Int} (ho : o.op = .index t x y) (hu : P.underlying t = some (.array len e)) (hg : isAggB P e = some g) (hn : sizeB P e = some sz) (hx : compO C x = some x') (hy : compO C y = some y')
    (R : Rel gb m F L W stL) (hr : OprOk C m F L W o a vars env) (hi : opnd vars env y' = .imm (.int k i)) (hc : aggOf (opnd vars env x') = some cs) (hb : 0 ≤ i ∧ i < len ∧ (i.toNat + 1) * sz ≤ cs.length)
    (h : (if g then some (mkAgg ((cs.drop (i.toNat * sz)).take sz)) else if sz = 1 then cs[i.toNat]? else none) = some v) : Ok P ro o a W (QPost gb m F L W stL nid v []):=by
  obtain ⟨vs,hw,hl,hr'⟩:=rep_aggOf hc (hr x x' (by rw [ho]; simp [Op.operands]) hx)
  have h3:=imm_int (hi ▸ hr y y' (by rw [ho]; simp [Op.operands]) hy)
  have hle : i.toNat * sz + sz ≤ cs.length:=by have:=hb.2.2; rw [Nat.succ_mul] at this; exact this
  have h' : (if g then some (mkAgg ((cs.drop (i.toNat * sz)).take sz)) else if sz = 1 then cs[i.toNat * sz]? else none) = some v:=by
    rw [← h]
    cases g with
    | true => rfl
    | false => simp only [Bool.false_eq_true,if_false]; split <;> simp_all
  obtain ⟨u,hu',hv⟩:=part_rep (P:=P) hg hn hl hr' hle h'
  exact Ok.qval R (by rw [ho]; simp) (by simp [execOp,ho,hw,h3,Instr.index,asIntOf,run_und hu,hb.1,hb.2.1,run_sizeB hn,hu']) hv
theorem sq_extract {x : Operand} {x' : Opnd} {i : Nat} {v : AV} (ho : o.op = .extract x i) (hx : compO C x = some x') (R : Rel gb m F L W stL) (hr : OprOk C m F L W o a vars env)
    (h : (match opnd vars env x' with | .imm (.tup ds) => (ds[i]?).map AV.imm | .tup vs => vs[i]? | _ => none) = some v) : Ok P ro o a W (QPost gb m F L W stL nid v []):=by
  have h2:=hr x x' (by rw [ho]; simp [Op.operands]) hx
  generalize hw : a.eval x = w at h2
  have fin : ∀ (vs : Array Value),w = .tuple vs → i < vs.size → RepA m F L W v (vs.getD i undef) → Ok P ro o a W (QPost gb m F L W stL nid v []):=by
    intro vs hv hi hrep
    refine Ok.qval R (by rw [ho]; simp) (w:=vs.getD i undef) ?_ hrep
    simp [execOp,ho,hw,hv,Instr.extract,hi]
  split at h
  · rename_i ds e
    rw [e] at h2
    cases h2 with
    | imm _ _ h2 =>
      cases h2 with
      | tup _ vs hl hr' =>
        simp only [Option.map_eq_some_iff] at h
        obtain ⟨d,hd,rfl⟩:=h
        exact fin vs rfl (by have:=(List.getElem?_eq_some_iff.1 hd).1; omega) (.imm _ _ (hr' i d hd))
  · rename_i vs' e
    rw [e] at h2
    cases h2 with
    | tup _ vs hl hr' => exact fin vs rfl (by have:=(List.getElem?_eq_some_iff.1 h).1; omega) (hr' i v h)
  · cases h
theorem sq_mnmx {b : Bool} {c : Call} {x y : Operand} {x' y' : Opnd} {k k' : IntKind} {p q : Int} (ho : o.op = .call c) (hc : c.callee = .builtin (if b then .min else .max)) (hargs : c.args.toList = [x,y]) (hx : compO C x = some x') (hy : compO C y = some y')
    (R : Rel gb m F L W stL) (hr : OprOk C m F L W o a vars env) (h1 : opnd vars env x' = .imm (.int k p)) (h2 : opnd vars env y' = .imm (.int k' q)) :
    Ok P ro o a W (QPost gb m F L W stL nid (.imm (.int k (if b then (if q < p then q else p) else (if p < q then q else p)))) []):=by
  have e : c.args = #[x,y]:=by rw [← Array.toArray_toList (xs:=c.args),hargs]
  have h3:=imm_int (h1 ▸ hr x x' (by rw [ho]; simp [Op.operands,Call.operands,hc,e]) hx)
  have h4:=imm_int (h2 ▸ hr y y' (by rw [ho]; simp [Op.operands,Call.operands,hc,e]) hy)
  cases b with
  | true =>
    refine Ok.qval R (by rw [ho]; simp) (w:=.int k (if q < p then q else p)) ?_ (rint _ _)
    simp [execOp,ho,resolve,hc,e,invoke,builtin,Builtin.min_,Builtin.min2,h3,h4]
  | false =>
    refine Ok.qval R (by rw [ho]; simp) (w:=.int k (if p < q then q else p)) ?_ (rint _ _)
    simp [execOp,ho,resolve,hc,e,invoke,builtin,Builtin.max_,Builtin.max2,h3,h4]
theorem run_len {k : LK} {t ty : TypeId} {n : Nat} {v : AV} {w : Value} (hu : match k with | .str => P.underlying t = some .string | .sl => ∃ e,P.underlying t = some (.slice e) | .mp => ∃ k e,P.underlying t = some (.map k e))
    (R : Rel gb m F L W stL) (hr : RepA m F L W v w) (hS : ∀ i ∈ ids v,i < st.length → stL i = sto st i) (h : aLen k v st = some n) : (Builtin.len_ #[t] ty #[w]).run P W = .ok (goInt n) W:=by
  unfold aLen at h
  split at h
  · injection h with h; subst h
    cases hr with
    | imm _ _ hr => cases hr; obtain ⟨e,hu⟩:=hu; simp [Builtin.len_,run_und hu]
  · injection h with h; subst h
    cases hr with
    | imm _ _ hr => cases hr; obtain ⟨e,hu⟩:=hu; simp [Builtin.len_,run_und hu]
  · injection h with h; subst h
    cases hr with
    | imm _ _ hr => cases hr; simp only at hu; simp [Builtin.len_,run_und hu]
  · injection h with h; subst h
    cases hr; obtain ⟨e,hu⟩:=hu; simp [Builtin.len_,run_und hu]
  · injection h with h; subst h
    cases hr; obtain ⟨e,hu⟩:=hu; simp [Builtin.len_,run_und hu]
  · rename_i id
    split at h
    · rename_i es hst
      injection h with h; subst h
      cases hr with
      | map _ b hm =>
        obtain ⟨k,e,hu⟩:=hu
        obtain ⟨ents,clock,h1,h2,_⟩:=look R (hS id (by simp [ids])) hst (by simp) hm
        simp [Builtin.len_,run_und hu,getObj,Sem.run,h1,h2]
    · cases h
  · cases h
theorem sq_len {k : LK} {c : Call} {x : Operand} {x' : Opnd} {t : TypeId} {n : Nat} (ho : o.op = .call c) (hc : c.callee = .builtin .len) (hargs : c.args.toList = [x]) (htys : c.argTypes.toList = [t]) (hx : compO C x = some x')
    (hu : match k with | .str => P.underlying t = some .string | .sl => ∃ e,P.underlying t = some (.slice e) | .mp => ∃ k e,P.underlying t = some (.map k e))
    (R : Rel gb m F L W stL) (hr : OprOk C m F L W o a vars env) (hS : ∀ i ∈ ids (opnd vars env x'),i < st.length → stL i = sto st i) (h : aLen k (opnd vars env x') st = some n) : Ok P ro o a W (QPost gb m F L W stL nid (.imm (.int .i64 n)) []):=by
  have e : c.args = #[x]:=by rw [← Array.toArray_toList (xs:=c.args),hargs]
  have et : c.argTypes = #[t]:=by rw [← Array.toArray_toList (xs:=c.argTypes),htys]
  have h3:=hr x x' (by rw [ho]; simp [Op.operands,Call.operands,hc,e]) hx
  have key:=run_len (ty:=o.type) hu R h3 hS h
  refine Ok.qval R (by rw [ho]; simp) (w:=.int .i64 n) ?_ (rint _ _)
  simp [execOp,ho,resolve,hc,e,et,invoke,builtin,key,goInt]
end
end Go.Vm
