/- The seat's table of types, as the engine wants it, and what is live behind each region. Printed by gentab.py. -/
import Derived.Test.YtnbiincgplkmbaaEngD
import Derived.Test.YtnbiincgplkmbaaRows
import Derived.KernelRfl
namespace Go.Proofs.Ytnbiincgplkmbaa
open Go Go.Eng
set_option maxRecDepth 100000
def tab : Tab := [(1, ⟨.fn, 1, 8, [.no], [.bool false], [(0, .top)]⟩),
  (2, ⟨.int .i64, 1, 8, [.int .i64], [.int .i64 0], []⟩),
  (3, ⟨.int .i64, 1, 8, [.int .i64], [.int .i64 0], []⟩),
  (4, ⟨.bool, 1, 1, [.bool], [.bool false], []⟩),
  (5, ⟨.int .u8, 1, 1, [.int .u8], [.int .u8 0], []⟩),
  (6, ⟨.int .u8, 1, 1, [.int .u8], [.int .u8 0], []⟩),
  (7, ⟨.struct [(0, 2), (1, 3), (2, 4), (3, 6)], 4, 24, [.int .i64, .int .i64, .bool, .int .u8], [.int .i64 0, .int .i64 0, .bool false, .int .u8 0], []⟩),
  (8, ⟨.struct [(0, 2), (1, 3), (2, 4), (3, 6)], 4, 24, [.int .i64, .int .i64, .bool, .int .u8], [.int .i64 0, .int .i64 0, .bool false, .int .u8 0], []⟩),
  (9, ⟨.str, 1, 16, [.str], [.str ⟨#[]⟩], []⟩),
  (10, ⟨.str, 1, 16, [.str], [.str ⟨#[]⟩], []⟩),
  (11, ⟨.str, 1, 16, [.str], [.str ⟨#[]⟩], []⟩),
  (12, ⟨.int .u64, 1, 8, [.int .u64], [.int .u64 0], []⟩),
  (15, ⟨.ptr 59, 1, 8, [.no], [.bool false], [(0, .nilp)]⟩),
  (16, ⟨.ptr 62, 1, 8, [.no], [.bool false], [(0, .nilp)]⟩),
  (17, ⟨.ptr 72, 1, 8, [.no], [.bool false], [(0, .nilp)]⟩),
  (21, ⟨.int .i32, 1, 4, [.int .i32], [.int .i32 0], []⟩),
  (22, ⟨.sl 36, 1, 24, [.sl 36], [.sl 36 []], [(0, .nils 36)]⟩),
  (23, ⟨.fn, 1, 8, [.no], [.bool false], [(0, .top)]⟩),
  (24, ⟨.fn, 1, 8, [.no], [.bool false], [(0, .top)]⟩),
  (25, ⟨.sl 5, 1, 24, [.sl 5], [.sl 5 []], [(0, .nils 5)]⟩),
  (26, ⟨.fn, 1, 8, [.no], [.bool false], [(0, .top)]⟩),
  (27, ⟨.fn, 1, 8, [.no], [.bool false], [(0, .top)]⟩),
  (28, ⟨.arr 16 5, 16, 16, [.int .u8, .int .u8, .int .u8, .int .u8, .int .u8, .int .u8, .int .u8, .int .u8, .int .u8, .int .u8, .int .u8, .int .u8, .int .u8, .int .u8, .int .u8, .int .u8], [.int .u8 0, .int .u8 0, .int .u8 0, .int .u8 0, .int .u8 0, .int .u8 0, .int .u8 0, .int .u8 0, .int .u8 0, .int .u8 0, .int .u8 0, .int .u8 0, .int .u8 0, .int .u8 0, .int .u8 0, .int .u8 0], []⟩),
  (29, ⟨.arr 16 5, 16, 16, [.int .u8, .int .u8, .int .u8, .int .u8, .int .u8, .int .u8, .int .u8, .int .u8, .int .u8, .int .u8, .int .u8, .int .u8, .int .u8, .int .u8, .int .u8, .int .u8], [.int .u8 0, .int .u8 0, .int .u8 0, .int .u8 0, .int .u8 0, .int .u8 0, .int .u8 0, .int .u8 0, .int .u8 0, .int .u8 0, .int .u8 0, .int .u8 0, .int .u8 0, .int .u8 0, .int .u8 0, .int .u8 0], []⟩),
  (30, ⟨.sl 9, 1, 24, [.sl 9], [.sl 9 []], [(0, .nils 9)]⟩),
  (31, ⟨.sl 29, 1, 24, [.sl 29], [.sl 29 []], [(0, .nils 29)]⟩),
  (32, ⟨.sl 42, 1, 24, [.sl 42], [.sl 42 []], [(0, .nils 42)]⟩),
  (33, ⟨.struct [(0, 4), (1, 3), (2, 30), (3, 4), (4, 4), (5, 31), (6, 32)], 7, 96, [.bool, .int .i64, .sl 9, .bool, .bool, .sl 29, .sl 42], [.bool false, .int .i64 0, .sl 9 [], .bool false, .bool false, .sl 29 [], .sl 42 []], [(2, .nils 9), (5, .nils 29), (6, .nils 42)]⟩),
  (34, ⟨.struct [(0, 4), (1, 3), (2, 30), (3, 4), (4, 4), (5, 31), (6, 32)], 7, 96, [.bool, .int .i64, .sl 9, .bool, .bool, .sl 29, .sl 42], [.bool false, .int .i64 0, .sl 9 [], .bool false, .bool false, .sl 29 [], .sl 42 []], [(2, .nils 9), (5, .nils 29), (6, .nils 42)]⟩),
  (35, ⟨.struct [(0, 3), (1, 3), (2, 9), (3, 3), (4, 3), (5, 29), (21, 3), (22, 3), (23, 25), (24, 34), (31, 9), (32, 9), (33, 9)], 34, 248, [.int .i64, .int .i64, .str, .int .i64, .int .i64, .int .u8, .int .u8, .int .u8, .int .u8, .int .u8, .int .u8, .int .u8, .int .u8, .int .u8, .int .u8, .int .u8, .int .u8, .int .u8, .int .u8, .int .u8, .int .u8, .int .i64, .int .i64, .sl 5, .bool, .int .i64, .sl 9, .bool, .bool, .sl 29, .sl 42, .str, .str, .str], [.int .i64 0, .int .i64 0, .str ⟨#[]⟩, .int .i64 0, .int .i64 0, .int .u8 0, .int .u8 0, .int .u8 0, .int .u8 0, .int .u8 0, .int .u8 0, .int .u8 0, .int .u8 0, .int .u8 0, .int .u8 0, .int .u8 0, .int .u8 0, .int .u8 0, .int .u8 0, .int .u8 0, .int .u8 0, .int .i64 0, .int .i64 0, .sl 5 [], .bool false, .int .i64 0, .sl 9 [], .bool false, .bool false, .sl 29 [], .sl 42 [], .str ⟨#[]⟩, .str ⟨#[]⟩, .str ⟨#[]⟩], [(23, .nils 5), (26, .nils 9), (29, .nils 29), (30, .nils 42)]⟩),
  (36, ⟨.struct [(0, 3), (1, 3), (2, 9), (3, 3), (4, 3), (5, 29), (21, 3), (22, 3), (23, 25), (24, 34), (31, 9), (32, 9), (33, 9)], 34, 248, [.int .i64, .int .i64, .str, .int .i64, .int .i64, .int .u8, .int .u8, .int .u8, .int .u8, .int .u8, .int .u8, .int .u8, .int .u8, .int .u8, .int .u8, .int .u8, .int .u8, .int .u8, .int .u8, .int .u8, .int .u8, .int .i64, .int .i64, .sl 5, .bool, .int .i64, .sl 9, .bool, .bool, .sl 29, .sl 42, .str, .str, .str], [.int .i64 0, .int .i64 0, .str ⟨#[]⟩, .int .i64 0, .int .i64 0, .int .u8 0, .int .u8 0, .int .u8 0, .int .u8 0, .int .u8 0, .int .u8 0, .int .u8 0, .int .u8 0, .int .u8 0, .int .u8 0, .int .u8 0, .int .u8 0, .int .u8 0, .int .u8 0, .int .u8 0, .int .u8 0, .int .i64 0, .int .i64 0, .sl 5 [], .bool false, .int .i64 0, .sl 9 [], .bool false, .bool false, .sl 29 [], .sl 42 [], .str ⟨#[]⟩, .str ⟨#[]⟩, .str ⟨#[]⟩], [(23, .nils 5), (26, .nils 9), (29, .nils 29), (30, .nils 42)]⟩),
  (37, ⟨.fn, 1, 8, [.no], [.bool false], [(0, .top)]⟩),
  (38, ⟨.fn, 1, 8, [.no], [.bool false], [(0, .top)]⟩),
  (39, ⟨.map 4 3, 1, 8, [.no], [.bool false], [(0, .top)]⟩),
  (40, ⟨.fn, 1, 8, [.no], [.bool false], [(0, .top)]⟩),
  (41, ⟨.struct [(0, 29), (16, 4), (17, 4)], 18, 18, [.int .u8, .int .u8, .int .u8, .int .u8, .int .u8, .int .u8, .int .u8, .int .u8, .int .u8, .int .u8, .int .u8, .int .u8, .int .u8, .int .u8, .int .u8, .int .u8, .bool, .bool], [.int .u8 0, .int .u8 0, .int .u8 0, .int .u8 0, .int .u8 0, .int .u8 0, .int .u8 0, .int .u8 0, .int .u8 0, .int .u8 0, .int .u8 0, .int .u8 0, .int .u8 0, .int .u8 0, .int .u8 0, .int .u8 0, .bool false, .bool false], []⟩),
  (42, ⟨.struct [(0, 29), (16, 4), (17, 4)], 18, 18, [.int .u8, .int .u8, .int .u8, .int .u8, .int .u8, .int .u8, .int .u8, .int .u8, .int .u8, .int .u8, .int .u8, .int .u8, .int .u8, .int .u8, .int .u8, .int .u8, .bool, .bool], [.int .u8 0, .int .u8 0, .int .u8 0, .int .u8 0, .int .u8 0, .int .u8 0, .int .u8 0, .int .u8 0, .int .u8 0, .int .u8 0, .int .u8 0, .int .u8 0, .int .u8 0, .int .u8 0, .int .u8 0, .int .u8 0, .bool false, .bool false], []⟩),
  (43, ⟨.fn, 1, 8, [.no], [.bool false], [(0, .top)]⟩),
  (44, ⟨.fn, 1, 8, [.no], [.bool false], [(0, .top)]⟩),
  (45, ⟨.int .u64, 1, 8, [.int .u64], [.int .u64 0], []⟩),
  (46, ⟨.fn, 1, 8, [.no], [.bool false], [(0, .top)]⟩),
  (47, ⟨.fn, 1, 8, [.no], [.bool false], [(0, .top)]⟩),
  (48, ⟨.fn, 1, 8, [.no], [.bool false], [(0, .top)]⟩),
  (49, ⟨.arr 3 9, 3, 48, [.str, .str, .str], [.str ⟨#[]⟩, .str ⟨#[]⟩, .str ⟨#[]⟩], []⟩),
  (50, ⟨.ptr 52, 1, 8, [.no], [.bool false], [(0, .nilp)]⟩),
  (51, ⟨.struct [(0, 25)], 1, 24, [.sl 5], [.sl 5 []], [(0, .nils 5)]⟩),
  (52, ⟨.struct [(0, 25)], 1, 24, [.sl 5], [.sl 5 []], [(0, .nils 5)]⟩),
  (53, ⟨.fn, 1, 8, [.no], [.bool false], [(0, .top)]⟩),
  (54, ⟨.fn, 1, 8, [.no], [.bool false], [(0, .top)]⟩),
  (55, ⟨.fn, 1, 8, [.no], [.bool false], [(0, .top)]⟩),
  (56, ⟨.fn, 1, 8, [.no], [.bool false], [(0, .top)]⟩),
  (57, ⟨.fn, 1, 8, [.no], [.bool false], [(0, .top)]⟩),
  (60, ⟨.arr 0 16, 0, 0, [], [], []⟩),
  (63, ⟨.fn, 1, 8, [.no], [.bool false], [(0, .top)]⟩),
  (64, ⟨.int .u32, 1, 4, [.int .u32], [.int .u32 0], []⟩),
  (65, ⟨.int .u8, 1, 1, [.int .u8], [.int .u8 0], []⟩),
  (66, ⟨.int .u8, 1, 1, [.int .u8], [.int .u8 0], []⟩),
  (67, ⟨.fn, 1, 8, [.no], [.bool false], [(0, .top)]⟩),
  (68, ⟨.ptr 5, 1, 8, [.no], [.bool false], [(0, .nilp)]⟩),
  (69, ⟨.int .i32, 1, 4, [.int .i32], [.int .i32 0], []⟩),
  (70, ⟨.int .i32, 1, 4, [.int .i32], [.int .i32 0], []⟩)]
theorem tabOk : TabOk Try.prog tab := by
  refine ⟨by kernel_rfl, ?_⟩
  have h : tab.all (fun p => tiOk Try.prog tab p.1 p.2) = true := by kernel_rfl
  exact fun p hp => List.all_eq_true.1 h p hp
def lv3 : List (Nat × List Nat) := [(0, [0]), (1, [0, 8]), (2, [2]), (3, [0, 11]), (4, [2]), (5, [0, 3]), (6, [0, 3, 4]), (7, [0, 4, 28]), (8, [2]), (9, [0, 4, 30, 31]), (10, [0, 4, 30, 31, 32]), (11, [0, 4, 5, 30, 31]), (12, [0, 4, 5, 30, 31, 59]), (13, [2]), (14, [0, 4, 5, 6, 30, 31]), (15, [0, 4, 30, 31, 95]), (16, [2]), (17, [0, 4, 30, 31]), (18, [2]), (999, [2]), (1000, []), (1001, [0, 4, 30, 31])]
theorem fn3 {F : Fun} {own : FuncId → Bool} {ownR bp : Bool} {n : Nat} {args : List V} {h : Heap} {r : V} {h' : Heap} (hF : FSound Try.prog tab F) (hl : Nat.ble args.length 97 = true) (hh : evFn tab F own ownR lv3 bp n Try.f3 args h = some (r, h')) : FnAt Try.prog tab 3 args h r h' :=
  evFn_ok tabOk hF Try.func3 (by kernel_rfl) (by kernel_rfl) (by rw [← Nat.ble_eq]; exact hl) hh
def lv4 : List (Nat × List Nat) := [(0, [0]), (1, [0, 7]), (2, [2]), (3, [0, 10]), (4, [2]), (5, [0, 3]), (6, [0, 3, 26]), (7, [2]), (8, [0, 3, 27, 28, 29]), (9, [0, 3, 27, 28, 29, 30]), (10, [0, 3, 5, 27, 28, 29]), (11, [0, 3, 27, 28, 29, 65]), (12, [2]), (13, [0, 3, 27, 28, 29]), (14, [2]), (999, [2]), (1000, [3]), (1001, [0, 3, 27, 28, 29])]
theorem fn4 {F : Fun} {own : FuncId → Bool} {ownR bp : Bool} {n : Nat} {args : List V} {h : Heap} {r : V} {h' : Heap} (hF : FSound Try.prog tab F) (hl : Nat.ble args.length 72 = true) (hh : evFn tab F own ownR lv4 bp n Try.f4 args h = some (r, h')) : FnAt Try.prog tab 4 args h r h' :=
  evFn_ok tabOk hF Try.func4 (by kernel_rfl) (by kernel_rfl) (by rw [← Nat.ble_eq]; exact hl) hh
def lv5 : List (Nat × List Nat) := [(0, [0, 1]), (1, [0, 1, 9]), (2, [4]), (3, [0, 1, 17]), (4, [4]), (5, [0, 1, 5, 6]), (6, [0, 1, 5, 6, 7]), (7, [4]), (999, [4])]
theorem fn5 {F : Fun} {own : FuncId → Bool} {ownR bp : Bool} {n : Nat} {args : List V} {h : Heap} {r : V} {h' : Heap} (hF : FSound Try.prog tab F) (hl : Nat.ble args.length 57 = true) (hh : evFn tab F own ownR lv5 bp n Try.f5 args h = some (r, h')) : FnAt Try.prog tab 5 args h r h' :=
  evFn_ok tabOk hF Try.func5 (by kernel_rfl) (by kernel_rfl) (by rw [← Nat.ble_eq]; exact hl) hh
def lv6 : List (Nat × List Nat) := [(0, [0, 1]), (1, [0, 1, 10]), (2, [4]), (3, [0, 1, 13]), (4, [4]), (5, [0, 1, 5]), (6, [0, 1, 5]), (7, [0, 1, 6]), (8, [0, 1, 6, 7]), (9, [0, 1, 6, 7, 46]), (10, [0, 1, 6, 7]), (11, [0, 6, 7, 8]), (12, [4]), (999, [4]), (1000, [0, 1, 6, 7]), (1001, [0, 1, 6, 7])]
theorem fn6 {F : Fun} {own : FuncId → Bool} {ownR bp : Bool} {n : Nat} {args : List V} {h : Heap} {r : V} {h' : Heap} (hF : FSound Try.prog tab F) (hl : Nat.ble args.length 78 = true) (hh : evFn tab F own ownR lv6 bp n Try.f6 args h = some (r, h')) : FnAt Try.prog tab 6 args h r h' :=
  evFn_ok tabOk hF Try.func6 (by kernel_rfl) (by kernel_rfl) (by rw [← Nat.ble_eq]; exact hl) hh
def lv7 : List (Nat × List Nat) := [(0, [1, 2]), (1, [1, 2, 14]), (2, [4]), (3, [1, 2, 19]), (4, [4]), (5, [1, 2, 5]), (6, [2, 5, 45]), (7, [4]), (8, [2, 6]), (9, [2, 6, 95]), (10, [4]), (11, [2, 6, 97, 98, 99]), (12, [2, 6, 97, 98, 99, 100]), (13, [2, 6, 7, 8, 97, 98, 99]), (14, [2, 6, 97, 98, 99, 118]), (15, [4]), (16, [2, 6, 97, 98, 99]), (17, [2, 6, 121, 122, 123]), (18, [2, 6, 121, 122, 123, 124]), (19, [2, 6, 9, 10, 121, 122, 123]), (20, [2, 6, 121, 122, 123, 134]), (21, [4]), (22, [2, 6, 121, 122, 123]), (23, [2, 137, 138, 139]), (24, [2, 137, 138, 139, 140]), (25, [2, 11, 12, 137, 138, 139]), (26, [2, 137, 138, 139, 160]), (27, [4]), (28, [2, 137, 138, 139]), (29, [4]), (999, [4]), (1000, [2, 6]), (1001, [2, 6, 97, 98, 99]), (1002, [2, 6]), (1003, [2, 6, 121, 122, 123]), (1004, []), (1005, [2, 137, 138, 139])]
theorem fn7 {F : Fun} {own : FuncId → Bool} {ownR bp : Bool} {n : Nat} {args : List V} {h : Heap} {r : V} {h' : Heap} (hF : FSound Try.prog tab F) (hl : Nat.ble args.length 162 = true) (hh : evFn tab F own ownR lv7 bp n Try.f7 args h = some (r, h')) : FnAt Try.prog tab 7 args h r h' :=
  evFn_ok tabOk hF Try.func7 (by kernel_rfl) (by kernel_rfl) (by rw [← Nat.ble_eq]; exact hl) hh
def lv8 : List (Nat × List Nat) := [(0, [0, 1, 2]), (1, [0, 1, 2, 9]), (2, [6]), (3, [0, 1, 2, 18]), (4, [6]), (5, [0, 1, 2, 7]), (6, [6]), (999, [6])]
theorem fn8 {F : Fun} {own : FuncId → Bool} {ownR bp : Bool} {n : Nat} {args : List V} {h : Heap} {r : V} {h' : Heap} (hF : FSound Try.prog tab F) (hl : Nat.ble args.length 80 = true) (hh : evFn tab F own ownR lv8 bp n Try.f8 args h = some (r, h')) : FnAt Try.prog tab 8 args h r h' :=
  evFn_ok tabOk hF Try.func8 (by kernel_rfl) (by kernel_rfl) (by rw [← Nat.ble_eq]; exact hl) hh
def lv9 : List (Nat × List Nat) := [(0, []), (1, [1]), (2, [0]), (999, [0])]
theorem fn9 {F : Fun} {own : FuncId → Bool} {ownR bp : Bool} {n : Nat} {args : List V} {h : Heap} {r : V} {h' : Heap} (hF : FSound Try.prog tab F) (hl : Nat.ble args.length 28 = true) (hh : evFn tab F own ownR lv9 bp n Try.f9 args h = some (r, h')) : FnAt Try.prog tab 9 args h r h' :=
  evFn_ok tabOk hF Try.func9 (by kernel_rfl) (by kernel_rfl) (by rw [← Nat.ble_eq]; exact hl) hh
def lv10 : List (Nat × List Nat) := [(0, [0]), (1, [0, 10]), (2, [2]), (3, [11, 12, 13]), (4, [11, 12, 13, 14]), (5, [4, 11, 12, 13]), (6, [4, 5, 11, 12, 13]), (7, [4, 5, 11, 12, 13, 38, 39, 40]), (8, [4, 5, 11, 12, 13, 38, 39, 40, 41]), (9, [4, 5, 7, 11, 12, 13, 38, 39, 40]), (10, [4, 5, 11, 12, 13, 38, 39, 40]), (11, [4, 5, 11, 12, 13, 38, 39, 40]), (12, [11, 12, 13, 67]), (13, [2]), (14, [11, 12, 13]), (15, [2]), (999, [2]), (1000, []), (1001, [11, 12, 13]), (1002, [4, 5, 11, 12, 13]), (1003, [4, 5, 11, 12, 13, 38, 39, 40])]
theorem fn10 {F : Fun} {own : FuncId → Bool} {ownR bp : Bool} {n : Nat} {args : List V} {h : Heap} {r : V} {h' : Heap} (hF : FSound Try.prog tab F) (hl : Nat.ble args.length 69 = true) (hh : evFn tab F own ownR lv10 bp n Try.f10 args h = some (r, h')) : FnAt Try.prog tab 10 args h r h' :=
  evFn_ok tabOk hF Try.func10 (by kernel_rfl) (by kernel_rfl) (by rw [← Nat.ble_eq]; exact hl) hh
def lv11 : List (Nat × List Nat) := [(0, [0]), (1, [0, 3]), (2, [3, 10, 11, 12]), (3, [3, 10, 11, 12, 13]), (4, [3, 5, 10, 11, 12]), (5, [3, 5, 6, 10, 11, 12]), (6, [3, 5, 6, 10, 11, 12, 25]), (7, [3, 5, 6, 10, 11, 12]), (8, [3, 5, 10, 11, 12]), (9, [3, 5, 10, 11, 12, 46]), (10, [3, 5, 10, 11, 12, 46, 47]), (11, [3, 10, 11, 12]), (12, [3, 5, 10, 11, 12, 46, 67]), (13, [3, 5, 10, 11, 12]), (14, [3, 7, 10, 11, 12]), (15, [3, 10, 11, 12]), (16, [3, 5, 10, 11, 12, 46, 92]), (17, [3, 10, 11, 12]), (18, [3, 5, 10, 11, 12, 98]), (19, [3, 10, 11, 12, 106, 107]), (20, [3, 10, 11, 12, 106, 107, 108]), (21, [3, 9, 10, 11, 12, 106, 107]), (22, [3, 10, 11, 12, 106, 107]), (23, [3, 10, 11, 12, 106, 107]), (24, [3, 10, 11, 12]), (25, [2]), (999, [2]), (1000, [3]), (1001, [3, 10, 11, 12]), (1002, [3, 10, 11, 12]), (1003, [3, 10, 11, 12]), (1004, [3, 10, 11, 12, 106, 107])]
theorem fn11 {F : Fun} {own : FuncId → Bool} {ownR bp : Bool} {n : Nat} {args : List V} {h : Heap} {r : V} {h' : Heap} (hF : FSound Try.prog tab F) (hl : Nat.ble args.length 120 = true) (hh : evFn tab F own ownR lv11 bp n Try.f11 args h = some (r, h')) : FnAt Try.prog tab 11 args h r h' :=
  evFn_ok tabOk hF Try.func11 (by kernel_rfl) (by kernel_rfl) (by rw [← Nat.ble_eq]; exact hl) hh
def lv12 : List (Nat × List Nat) := [(0, [0]), (1, [3]), (2, [3, 4]), (3, [3, 4, 15]), (4, [3, 4, 5]), (5, [3, 4, 6]), (6, [3, 4, 6, 27]), (7, [3, 4, 6, 27, 28]), (8, [3, 4, 6]), (9, [3, 4, 6, 27, 42]), (10, [3, 4, 6]), (11, [3, 4, 6]), (12, [3, 4, 6, 27, 58]), (13, [3, 4, 6]), (14, [3, 4, 6, 63]), (15, [3, 4, 6]), (16, [3, 4]), (17, [2]), (999, [2]), (1000, [4]), (1001, [3, 4]), (1002, [3, 4, 6])]
theorem fn12 {F : Fun} {own : FuncId → Bool} {ownR bp : Bool} {n : Nat} {args : List V} {h : Heap} {r : V} {h' : Heap} (hF : FSound Try.prog tab F) (hl : Nat.ble args.length 79 = true) (hh : evFn tab F own ownR lv12 bp n Try.f12 args h = some (r, h')) : FnAt Try.prog tab 12 args h r h' :=
  evFn_ok tabOk hF Try.func12 (by kernel_rfl) (by kernel_rfl) (by rw [← Nat.ble_eq]; exact hl) hh
def lv13 : List (Nat × List Nat) := [(0, [0, 1]), (1, [4]), (999, [4])]
theorem fn13 {F : Fun} {own : FuncId → Bool} {ownR bp : Bool} {n : Nat} {args : List V} {h : Heap} {r : V} {h' : Heap} (hF : FSound Try.prog tab F) (hl : Nat.ble args.length 19 = true) (hh : evFn tab F own ownR lv13 bp n Try.f13 args h = some (r, h')) : FnAt Try.prog tab 13 args h r h' :=
  evFn_ok tabOk hF Try.func13 (by kernel_rfl) (by kernel_rfl) (by rw [← Nat.ble_eq]; exact hl) hh
def lv14 : List (Nat × List Nat) := [(0, [0, 1]), (1, [4]), (999, [4])]
theorem fn14 {F : Fun} {own : FuncId → Bool} {ownR bp : Bool} {n : Nat} {args : List V} {h : Heap} {r : V} {h' : Heap} (hF : FSound Try.prog tab F) (hl : Nat.ble args.length 13 = true) (hh : evFn tab F own ownR lv14 bp n Try.f14 args h = some (r, h')) : FnAt Try.prog tab 14 args h r h' :=
  evFn_ok tabOk hF Try.func14 (by kernel_rfl) (by kernel_rfl) (by rw [← Nat.ble_eq]; exact hl) hh
def lv15 : List (Nat × List Nat) := [(0, [0, 1, 2]), (1, [0, 2, 7]), (2, [0, 2, 7, 11]), (3, [0, 2, 7]), (4, [0, 2, 7]), (5, [6]), (999, [6]), (1000, [0]), (1001, [0, 2, 7])]
theorem fn15 {F : Fun} {own : FuncId → Bool} {ownR bp : Bool} {n : Nat} {args : List V} {h : Heap} {r : V} {h' : Heap} (hF : FSound Try.prog tab F) (hl : Nat.ble args.length 23 = true) (hh : evFn tab F own ownR lv15 bp n Try.f15 args h = some (r, h')) : FnAt Try.prog tab 15 args h r h' :=
  evFn_ok tabOk hF Try.func15 (by kernel_rfl) (by kernel_rfl) (by rw [← Nat.ble_eq]; exact hl) hh
def lv16 : List (Nat × List Nat) := [(0, [0, 3]), (1, [0, 3, 5, 6, 7]), (2, [0, 3, 5, 6, 7, 8]), (3, [0, 3, 5, 6, 7, 8, 48]), (4, [0, 3, 5, 6, 7, 8]), (5, [0, 5, 6, 7, 8, 52]), (6, [0, 5, 6, 7, 8]), (7, [0, 5, 6, 7]), (8, [0, 6, 7, 60, 61, 62]), (9, [0, 6, 7, 60, 61, 62, 63]), (10, [0, 6, 7, 10, 60, 61, 62]), (11, [0, 6, 7, 60, 61, 62]), (12, [0, 6, 7, 60, 61, 62]), (13, [0, 7, 74, 75, 76]), (14, [0, 7, 74, 75, 76, 77]), (15, [0, 7, 12, 74, 75, 76]), (16, [0, 7, 74, 75, 76]), (17, [0, 7, 74, 75, 76]), (18, [0, 84, 85, 86]), (19, [0, 84, 85, 86, 87]), (20, [0, 14, 84, 85, 86]), (21, [0, 84, 85, 86]), (22, [0, 84, 85, 86]), (23, [4]), (999, [4]), (1000, [0, 6, 7]), (1001, [0, 6, 7, 60, 61, 62]), (1002, [0, 7]), (1003, [0, 7, 74, 75, 76]), (1004, [0]), (1005, [0, 84, 85, 86])]
theorem fn16 {F : Fun} {own : FuncId → Bool} {ownR bp : Bool} {n : Nat} {args : List V} {h : Heap} {r : V} {h' : Heap} (hF : FSound Try.prog tab F) (hl : Nat.ble args.length 96 = true) (hh : evFn tab F own ownR lv16 bp n Try.f16 args h = some (r, h')) : FnAt Try.prog tab 16 args h r h' :=
  evFn_ok tabOk hF Try.func16 (by kernel_rfl) (by kernel_rfl) (by rw [← Nat.ble_eq]; exact hl) hh
def lv17 : List (Nat × List Nat) := [(0, [0, 1]), (1, [0, 1, 5]), (2, [5, 10, 11, 12]), (3, [5, 10, 11, 12, 13]), (4, [5, 7, 10, 11, 12]), (5, [5, 10, 11, 12]), (6, [5, 10, 11, 12]), (7, [4]), (999, [4]), (1000, [5]), (1001, [5, 10, 11, 12])]
theorem fn17 {F : Fun} {own : FuncId → Bool} {ownR bp : Bool} {n : Nat} {args : List V} {h : Heap} {r : V} {h' : Heap} (hF : FSound Try.prog tab F) (hl : Nat.ble args.length 23 = true) (hh : evFn tab F own ownR lv17 bp n Try.f17 args h = some (r, h')) : FnAt Try.prog tab 17 args h r h' :=
  evFn_ok tabOk hF Try.func17 (by kernel_rfl) (by kernel_rfl) (by rw [← Nat.ble_eq]; exact hl) hh
def lv18 : List (Nat × List Nat) := [(0, [0]), (1, [2]), (999, [2])]
theorem fn18 {F : Fun} {own : FuncId → Bool} {ownR bp : Bool} {n : Nat} {args : List V} {h : Heap} {r : V} {h' : Heap} (hF : FSound Try.prog tab F) (hl : Nat.ble args.length 8 = true) (hh : evFn tab F own ownR lv18 bp n Try.f18 args h = some (r, h')) : FnAt Try.prog tab 18 args h r h' :=
  evFn_ok tabOk hF Try.func18 (by kernel_rfl) (by kernel_rfl) (by rw [← Nat.ble_eq]; exact hl) hh
def lv19 : List (Nat × List Nat) := [(0, [0, 2]), (1, [0, 2, 3]), (2, [2, 3]), (3, [2]), (999, [2])]
theorem fn19 {F : Fun} {own : FuncId → Bool} {ownR bp : Bool} {n : Nat} {args : List V} {h : Heap} {r : V} {h' : Heap} (hF : FSound Try.prog tab F) (hl : Nat.ble args.length 9 = true) (hh : evFn tab F own ownR lv19 bp n Try.f19 args h = some (r, h')) : FnAt Try.prog tab 19 args h r h' :=
  evFn_ok tabOk hF Try.func19 (by kernel_rfl) (by kernel_rfl) (by rw [← Nat.ble_eq]; exact hl) hh
def lv20 : List (Nat × List Nat) := [(0, [0, 1]), (1, [0, 1]), (2, [0, 1, 5]), (3, [5]), (4, [4]), (999, [4])]
theorem fn20 {F : Fun} {own : FuncId → Bool} {ownR bp : Bool} {n : Nat} {args : List V} {h : Heap} {r : V} {h' : Heap} (hF : FSound Try.prog tab F) (hl : Nat.ble args.length 30 = true) (hh : evFn tab F own ownR lv20 bp n Try.f20 args h = some (r, h')) : FnAt Try.prog tab 20 args h r h' :=
  evFn_ok tabOk hF Try.func20 (by kernel_rfl) (by kernel_rfl) (by rw [← Nat.ble_eq]; exact hl) hh
def lv21 : List (Nat × List Nat) := [(0, [0, 2]), (1, [0, 2, 3]), (2, [0, 2, 3, 4]), (3, [0, 2, 3, 4, 16, 17]), (4, [0, 2, 3, 4, 16, 17, 18]), (5, [0, 2, 3, 4, 16, 17]), (6, [0, 2, 3, 4, 16, 17]), (7, [0, 2, 3, 4, 29, 30]), (8, [0, 2, 3, 4, 29, 30, 31]), (9, [0, 2, 3, 4, 29, 30]), (10, [0, 2, 3, 4, 29, 30]), (11, [0, 2, 4, 42, 43]), (12, [0, 2, 4, 42, 43, 44]), (13, [0, 2, 4, 42, 43]), (14, [0, 2, 4, 42, 43]), (15, [2]), (999, [2]), (1000, [0, 2, 3, 4]), (1001, [0, 2, 3, 4, 16, 17]), (1002, [0, 2, 3, 4]), (1003, [0, 2, 3, 4, 29, 30]), (1004, [2, 4]), (1005, [0, 2, 4, 42, 43])]
theorem fn21 {F : Fun} {own : FuncId → Bool} {ownR bp : Bool} {n : Nat} {args : List V} {h : Heap} {r : V} {h' : Heap} (hF : FSound Try.prog tab F) (hl : Nat.ble args.length 55 = true) (hh : evFn tab F own ownR lv21 bp n Try.f21 args h = some (r, h')) : FnAt Try.prog tab 21 args h r h' :=
  evFn_ok tabOk hF Try.func21 (by kernel_rfl) (by kernel_rfl) (by rw [← Nat.ble_eq]; exact hl) hh
end Go.Proofs.Ytnbiincgplkmbaa
