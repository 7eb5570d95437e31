/- The seat's table of types, as the engine wants it, and what is live behind each region. Printed by gentab.py. -/
import Derived.Test.YtlcegmkecphciaaEngD
import Derived.Test.YtlcegmkecphciaaRows
import Derived.KernelRfl
namespace Go.Proofs.Ytlcegmkecphciaa
open Go Go.Eng
set_option maxRecDepth 100000
def tab : Tab := [(1, ⟨.fn, 1, 8, [.no], [.bool false], [(0, .top)]⟩),
  (2, ⟨.int .i64, 1, 8, [.int .i64], [.int .i64 0], []⟩),
  (3, ⟨.int .i64, 1, 8, [.int .i64], [.int .i64 0], []⟩),
  (4, ⟨.bool, 1, 1, [.bool], [.bool false], []⟩),
  (5, ⟨.int .u8, 1, 1, [.int .u8], [.int .u8 0], []⟩),
  (6, ⟨.int .u8, 1, 1, [.int .u8], [.int .u8 0], []⟩),
  (7, ⟨.struct [(0, 2), (1, 3), (2, 4), (3, 6)], 4, 24, [.int .i64, .int .i64, .bool, .int .u8], [.int .i64 0, .int .i64 0, .bool false, .int .u8 0], []⟩),
  (8, ⟨.struct [(0, 2), (1, 3), (2, 4), (3, 6)], 4, 24, [.int .i64, .int .i64, .bool, .int .u8], [.int .i64 0, .int .i64 0, .bool false, .int .u8 0], []⟩),
  (9, ⟨.str, 1, 16, [.str], [.str ⟨#[]⟩], []⟩),
  (10, ⟨.str, 1, 16, [.str], [.str ⟨#[]⟩], []⟩),
  (11, ⟨.str, 1, 16, [.str], [.str ⟨#[]⟩], []⟩),
  (12, ⟨.int .u64, 1, 8, [.int .u64], [.int .u64 0], []⟩),
  (15, ⟨.ptr 55, 1, 8, [.no], [.bool false], [(0, .nilp)]⟩),
  (16, ⟨.ptr 58, 1, 8, [.no], [.bool false], [(0, .nilp)]⟩),
  (17, ⟨.ptr 68, 1, 8, [.no], [.bool false], [(0, .nilp)]⟩),
  (21, ⟨.int .i32, 1, 4, [.int .i32], [.int .i32 0], []⟩),
  (22, ⟨.fn, 1, 8, [.no], [.bool false], [(0, .top)]⟩),
  (23, ⟨.struct [(0, 9), (1, 3)], 2, 24, [.str, .int .i64], [.str ⟨#[]⟩, .int .i64 0], []⟩),
  (24, ⟨.struct [(0, 9), (1, 3)], 2, 24, [.str, .int .i64], [.str ⟨#[]⟩, .int .i64 0], []⟩),
  (25, ⟨.sl 33, 1, 24, [.sl 33], [.sl 33 []], [(0, .nils 33)]⟩),
  (26, ⟨.struct [(0, 3), (1, 4), (2, 4), (3, 4), (4, 3), (5, 24), (7, 25), (8, 25)], 9, 96, [.int .i64, .bool, .bool, .bool, .int .i64, .str, .int .i64, .sl 33, .sl 33], [.int .i64 0, .bool false, .bool false, .bool false, .int .i64 0, .str ⟨#[]⟩, .int .i64 0, .sl 33 [], .sl 33 []], [(7, .nils 33), (8, .nils 33)]⟩),
  (27, ⟨.struct [(0, 3), (1, 4), (2, 4), (3, 4), (4, 3), (5, 24), (7, 25), (8, 25)], 9, 96, [.int .i64, .bool, .bool, .bool, .int .i64, .str, .int .i64, .sl 33, .sl 33], [.int .i64 0, .bool false, .bool false, .bool false, .int .i64 0, .str ⟨#[]⟩, .int .i64 0, .sl 33 [], .sl 33 []], [(7, .nils 33), (8, .nils 33)]⟩),
  (28, ⟨.sl 5, 1, 24, [.sl 5], [.sl 5 []], [(0, .nils 5)]⟩),
  (29, ⟨.fn, 1, 8, [.no], [.bool false], [(0, .top)]⟩),
  (30, ⟨.arr 16 5, 16, 16, [.int .u8, .int .u8, .int .u8, .int .u8, .int .u8, .int .u8, .int .u8, .int .u8, .int .u8, .int .u8, .int .u8, .int .u8, .int .u8, .int .u8, .int .u8, .int .u8], [.int .u8 0, .int .u8 0, .int .u8 0, .int .u8 0, .int .u8 0, .int .u8 0, .int .u8 0, .int .u8 0, .int .u8 0, .int .u8 0, .int .u8 0, .int .u8 0, .int .u8 0, .int .u8 0, .int .u8 0, .int .u8 0], []⟩),
  (31, ⟨.arr 16 5, 16, 16, [.int .u8, .int .u8, .int .u8, .int .u8, .int .u8, .int .u8, .int .u8, .int .u8, .int .u8, .int .u8, .int .u8, .int .u8, .int .u8, .int .u8, .int .u8, .int .u8], [.int .u8 0, .int .u8 0, .int .u8 0, .int .u8 0, .int .u8 0, .int .u8 0, .int .u8 0, .int .u8 0, .int .u8 0, .int .u8 0, .int .u8 0, .int .u8 0, .int .u8 0, .int .u8 0, .int .u8 0, .int .u8 0], []⟩),
  (32, ⟨.struct [(0, 9), (1, 3), (2, 3), (3, 31), (19, 9), (20, 9)], 21, 80, [.str, .int .i64, .int .i64, .int .u8, .int .u8, .int .u8, .int .u8, .int .u8, .int .u8, .int .u8, .int .u8, .int .u8, .int .u8, .int .u8, .int .u8, .int .u8, .int .u8, .int .u8, .int .u8, .str, .str], [.str ⟨#[]⟩, .int .i64 0, .int .i64 0, .int .u8 0, .int .u8 0, .int .u8 0, .int .u8 0, .int .u8 0, .int .u8 0, .int .u8 0, .int .u8 0, .int .u8 0, .int .u8 0, .int .u8 0, .int .u8 0, .int .u8 0, .int .u8 0, .int .u8 0, .int .u8 0, .str ⟨#[]⟩, .str ⟨#[]⟩], []⟩),
  (33, ⟨.struct [(0, 9), (1, 3), (2, 3), (3, 31), (19, 9), (20, 9)], 21, 80, [.str, .int .i64, .int .i64, .int .u8, .int .u8, .int .u8, .int .u8, .int .u8, .int .u8, .int .u8, .int .u8, .int .u8, .int .u8, .int .u8, .int .u8, .int .u8, .int .u8, .int .u8, .int .u8, .str, .str], [.str ⟨#[]⟩, .int .i64 0, .int .i64 0, .int .u8 0, .int .u8 0, .int .u8 0, .int .u8 0, .int .u8 0, .int .u8 0, .int .u8 0, .int .u8 0, .int .u8 0, .int .u8 0, .int .u8 0, .int .u8 0, .int .u8 0, .int .u8 0, .int .u8 0, .int .u8 0, .str ⟨#[]⟩, .str ⟨#[]⟩], []⟩),
  (34, ⟨.struct [(0, 3), (1, 25), (2, 9), (3, 3)], 4, 56, [.int .i64, .sl 33, .str, .int .i64], [.int .i64 0, .sl 33 [], .str ⟨#[]⟩, .int .i64 0], [(1, .nils 33)]⟩),
  (35, ⟨.struct [(0, 3), (1, 25), (2, 9), (3, 3)], 4, 56, [.int .i64, .sl 33, .str, .int .i64], [.int .i64 0, .sl 33 [], .str ⟨#[]⟩, .int .i64 0], [(1, .nils 33)]⟩),
  (36, ⟨.fn, 1, 8, [.no], [.bool false], [(0, .top)]⟩),
  (37, ⟨.fn, 1, 8, [.no], [.bool false], [(0, .top)]⟩),
  (38, ⟨.map 4 3, 1, 8, [.no], [.bool false], [(0, .top)]⟩),
  (39, ⟨.fn, 1, 8, [.no], [.bool false], [(0, .top)]⟩),
  (40, ⟨.struct [(0, 3), (1, 3), (2, 3), (3, 31), (19, 9)], 20, 56, [.int .i64, .int .i64, .int .i64, .int .u8, .int .u8, .int .u8, .int .u8, .int .u8, .int .u8, .int .u8, .int .u8, .int .u8, .int .u8, .int .u8, .int .u8, .int .u8, .int .u8, .int .u8, .int .u8, .str], [.int .i64 0, .int .i64 0, .int .i64 0, .int .u8 0, .int .u8 0, .int .u8 0, .int .u8 0, .int .u8 0, .int .u8 0, .int .u8 0, .int .u8 0, .int .u8 0, .int .u8 0, .int .u8 0, .int .u8 0, .int .u8 0, .int .u8 0, .int .u8 0, .int .u8 0, .str ⟨#[]⟩], []⟩),
  (41, ⟨.struct [(0, 3), (1, 3), (2, 3), (3, 31), (19, 9)], 20, 56, [.int .i64, .int .i64, .int .i64, .int .u8, .int .u8, .int .u8, .int .u8, .int .u8, .int .u8, .int .u8, .int .u8, .int .u8, .int .u8, .int .u8, .int .u8, .int .u8, .int .u8, .int .u8, .int .u8, .str], [.int .i64 0, .int .i64 0, .int .i64 0, .int .u8 0, .int .u8 0, .int .u8 0, .int .u8 0, .int .u8 0, .int .u8 0, .int .u8 0, .int .u8 0, .int .u8 0, .int .u8 0, .int .u8 0, .int .u8 0, .int .u8 0, .int .u8 0, .int .u8 0, .int .u8 0, .str ⟨#[]⟩], []⟩),
  (42, ⟨.sl 41, 1, 24, [.sl 41], [.sl 41 []], [(0, .nils 41)]⟩),
  (43, ⟨.fn, 1, 8, [.no], [.bool false], [(0, .top)]⟩),
  (44, ⟨.fn, 1, 8, [.no], [.bool false], [(0, .top)]⟩),
  (45, ⟨.fn, 1, 8, [.no], [.bool false], [(0, .top)]⟩),
  (46, ⟨.sl 3, 1, 24, [.sl 3], [.sl 3 []], [(0, .nils 3)]⟩),
  (47, ⟨.fn, 1, 8, [.no], [.bool false], [(0, .top)]⟩),
  (48, ⟨.fn, 1, 8, [.no], [.bool false], [(0, .top)]⟩),
  (49, ⟨.fn, 1, 8, [.no], [.bool false], [(0, .top)]⟩),
  (50, ⟨.fn, 1, 8, [.no], [.bool false], [(0, .top)]⟩),
  (51, ⟨.int .u64, 1, 8, [.int .u64], [.int .u64 0], []⟩),
  (52, ⟨.sl 9, 1, 24, [.sl 9], [.sl 9 []], [(0, .nils 9)]⟩),
  (53, ⟨.fn, 1, 8, [.no], [.bool false], [(0, .top)]⟩),
  (56, ⟨.arr 0 16, 0, 0, [], [], []⟩),
  (59, ⟨.fn, 1, 8, [.no], [.bool false], [(0, .top)]⟩),
  (60, ⟨.int .u32, 1, 4, [.int .u32], [.int .u32 0], []⟩),
  (61, ⟨.int .u8, 1, 1, [.int .u8], [.int .u8 0], []⟩),
  (62, ⟨.int .u8, 1, 1, [.int .u8], [.int .u8 0], []⟩),
  (63, ⟨.fn, 1, 8, [.no], [.bool false], [(0, .top)]⟩),
  (64, ⟨.ptr 5, 1, 8, [.no], [.bool false], [(0, .nilp)]⟩),
  (65, ⟨.int .i32, 1, 4, [.int .i32], [.int .i32 0], []⟩),
  (66, ⟨.int .i32, 1, 4, [.int .i32], [.int .i32 0], []⟩)]
theorem tabOk : TabOk Try.prog tab := by
  refine ⟨by kernel_rfl, ?_⟩
  have h : tab.all (fun p => tiOk Try.prog tab p.1 p.2) = true := by kernel_rfl
  exact fun p hp => List.all_eq_true.1 h p hp
def lv3 : List (Nat × List Nat) := [(0, [1]), (1, [1, 8]), (2, [2]), (3, [1]), (4, [1, 3]), (5, [1, 3, 4]), (6, [1, 3, 4, 15, 16]), (7, [1, 3, 4, 15, 16, 17]), (8, [1, 3, 4, 5, 15, 16]), (9, [1, 3, 4, 15, 16]), (10, [1, 3, 4, 15, 16]), (11, [1, 4, 6]), (12, [4, 6, 39]), (13, [2]), (14, [2]), (999, [2]), (1000, [1, 3, 4]), (1001, [1, 3, 4, 15, 16])]
theorem fn3 {F : Fun} {own : FuncId → Bool} {ownR bp : Bool} {n : Nat} {args : List V} {h : Heap} {r : V} {h' : Heap} (hF : FSound Try.prog tab F) (hl : Nat.ble args.length 63 = true) (hh : evFn tab F own ownR lv3 bp n Try.f3 args h = some (r, h')) : FnAt Try.prog tab 3 args h r h' :=
  evFn_ok tabOk hF Try.func3 (by kernel_rfl) (by kernel_rfl) (by rw [← Nat.ble_eq]; exact hl) hh
def lv4 : List (Nat × List Nat) := [(0, [0, 1]), (1, [0, 1, 10]), (2, [4]), (3, [0, 1]), (4, [0, 1, 5]), (5, [0, 1, 5, 6]), (6, [0, 1, 5, 6, 16, 17]), (7, [0, 1, 5, 6, 16, 17, 18]), (8, [0, 1, 5, 6, 7, 16, 17]), (9, [0, 1, 5, 6, 16, 17]), (10, [0, 1, 5, 6, 16, 17]), (11, [0, 1, 5, 6, 36]), (12, [0, 1, 5, 6]), (13, [0, 1, 6, 8]), (14, [0, 6, 8, 52]), (15, [4]), (16, [4]), (999, [4]), (1000, [0, 1, 5, 6]), (1001, [0, 1, 5, 6, 16, 17])]
theorem fn4 {F : Fun} {own : FuncId → Bool} {ownR bp : Bool} {n : Nat} {args : List V} {h : Heap} {r : V} {h' : Heap} (hF : FSound Try.prog tab F) (hl : Nat.ble args.length 89 = true) (hh : evFn tab F own ownR lv4 bp n Try.f4 args h = some (r, h')) : FnAt Try.prog tab 4 args h r h' :=
  evFn_ok tabOk hF Try.func4 (by kernel_rfl) (by kernel_rfl) (by rw [← Nat.ble_eq]; exact hl) hh
def lv5 : List (Nat × List Nat) := [(0, [1, 2, 3]), (1, [1, 2, 3, 15]), (2, [6]), (3, [1, 2, 3, 18]), (4, [6]), (5, [1, 2, 3, 19, 20, 21]), (6, [1, 2, 3, 19, 20, 21, 22]), (7, [1, 2, 3, 8, 19, 20, 21]), (8, [1, 2, 3, 19, 20, 21, 28]), (9, [6]), (10, [1, 2, 3, 19, 20, 21]), (11, [3, 9]), (12, [3, 9]), (13, [3, 9, 10]), (14, [9, 10, 11]), (15, [9, 10, 11]), (16, [9, 10, 11]), (17, [9, 11, 12, 13]), (18, [11, 12, 13, 59]), (19, [6]), (20, [6]), (999, [6]), (1000, [1, 2, 3]), (1001, [1, 2, 3, 19, 20, 21])]
theorem fn5 {F : Fun} {own : FuncId → Bool} {ownR bp : Bool} {n : Nat} {args : List V} {h : Heap} {r : V} {h' : Heap} (hF : FSound Try.prog tab F) (hl : Nat.ble args.length 100 = true) (hh : evFn tab F own ownR lv5 bp n Try.f5 args h = some (r, h')) : FnAt Try.prog tab 5 args h r h' :=
  evFn_ok tabOk hF Try.func5 (by kernel_rfl) (by kernel_rfl) (by rw [← Nat.ble_eq]; exact hl) hh
def lv6 : List (Nat × List Nat) := [(0, [0, 1]), (1, [0, 1, 13]), (2, [4]), (3, [0, 1, 16]), (4, [4]), (5, [0, 1, 5]), (6, [0, 1, 5, 6]), (7, [0, 5, 6, 22, 23, 24]), (8, [0, 5, 6, 22, 23, 24, 25]), (9, [0, 5, 6, 7, 8, 22, 23, 24]), (10, [0, 5, 6, 7, 9, 22, 23, 24]), (11, [0, 5, 6, 7, 9, 22, 23, 24, 34]), (12, [0, 5, 6, 7, 9, 22, 23, 24]), (13, [0, 5, 6, 9, 22, 23, 24, 37]), (14, [0, 5, 6, 9, 22, 23, 24]), (15, [0, 5, 6, 22, 23, 24]), (16, [0, 5, 6, 22, 23, 24]), (17, [0, 6, 10]), (18, [0, 6, 10, 11]), (19, [6, 10, 11, 51]), (20, [6, 10, 11]), (21, [4]), (999, [4]), (1000, [0, 5, 6]), (1001, [0, 5, 6, 22, 23, 24])]
theorem fn6 {F : Fun} {own : FuncId → Bool} {ownR bp : Bool} {n : Nat} {args : List V} {h : Heap} {r : V} {h' : Heap} (hF : FSound Try.prog tab F) (hl : Nat.ble args.length 73 = true) (hh : evFn tab F own ownR lv6 bp n Try.f6 args h = some (r, h')) : FnAt Try.prog tab 6 args h r h' :=
  evFn_ok tabOk hF Try.func6 (by kernel_rfl) (by kernel_rfl) (by rw [← Nat.ble_eq]; exact hl) hh
def lv7 : List (Nat × List Nat) := [(0, []), (1, [1]), (2, [2]), (3, [0]), (999, [0])]
theorem fn7 {F : Fun} {own : FuncId → Bool} {ownR bp : Bool} {n : Nat} {args : List V} {h : Heap} {r : V} {h' : Heap} (hF : FSound Try.prog tab F) (hl : Nat.ble args.length 33 = true) (hh : evFn tab F own ownR lv7 bp n Try.f7 args h = some (r, h')) : FnAt Try.prog tab 7 args h r h' :=
  evFn_ok tabOk hF Try.func7 (by kernel_rfl) (by kernel_rfl) (by rw [← Nat.ble_eq]; exact hl) hh
def lv8 : List (Nat × List Nat) := [(0, [0, 1]), (1, [3]), (999, [3])]
theorem fn8 {F : Fun} {own : FuncId → Bool} {ownR bp : Bool} {n : Nat} {args : List V} {h : Heap} {r : V} {h' : Heap} (hF : FSound Try.prog tab F) (hl : Nat.ble args.length 12 = true) (hh : evFn tab F own ownR lv8 bp n Try.f8 args h = some (r, h')) : FnAt Try.prog tab 8 args h r h' :=
  evFn_ok tabOk hF Try.func8 (by kernel_rfl) (by kernel_rfl) (by rw [← Nat.ble_eq]; exact hl) hh
def lv9 : List (Nat × List Nat) := [(0, [1, 2]), (1, [1, 2, 3]), (2, [1, 2, 3, 19]), (3, [2]), (4, [1, 2, 3, 4]), (5, [1, 2, 3, 4, 21]), (6, [1, 2, 3, 4, 21, 22]), (7, [1, 2, 3, 4, 5, 21]), (8, [1, 2, 3, 4, 5, 6, 21]), (9, [1, 2, 3, 4, 5, 6, 21, 24, 25, 26]), (10, [1, 2, 3, 4, 5, 6, 21, 24, 25, 26, 27]), (11, [1, 2, 3, 4, 5, 6, 8, 21, 24, 25, 26]), (12, [1, 2, 3, 4, 5, 6, 8, 21, 24, 25, 26, 30]), (13, [1, 2, 3, 4, 5, 6, 8, 21, 24, 25, 26, 35]), (14, [1, 2, 3, 4, 5, 6, 21, 24, 25, 26]), (15, [1, 2, 3, 4, 5, 6, 8, 21, 24, 25, 26, 46]), (16, [1, 2, 3, 4, 5, 6, 8, 21, 24, 25, 26]), (17, [1, 2, 3, 4, 5, 6, 21, 24, 25, 26]), (18, [1, 2, 3, 4, 5, 6, 21, 24, 25, 26]), (19, [1, 2, 3, 4, 5, 6, 21, 63]), (20, [2]), (21, [1, 2, 3, 4, 6, 21, 71]), (22, [1, 2, 3, 4, 21]), (23, [1, 2, 3, 4, 21]), (24, [1, 2, 3, 4, 83]), (25, [2]), (26, [1, 2, 89]), (27, [2]), (28, [2]), (999, [2]), (1000, [1, 2, 3, 4]), (1001, [1, 2, 3, 4, 21]), (1002, [1, 2, 3, 4, 5, 6, 21]), (1003, [1, 2, 3, 4, 5, 6, 21, 24, 25, 26]), (1004, [1, 2, 3, 4, 5, 6, 21, 24, 25, 26])]
theorem fn9 {F : Fun} {own : FuncId → Bool} {ownR bp : Bool} {n : Nat} {args : List V} {h : Heap} {r : V} {h' : Heap} (hF : FSound Try.prog tab F) (hl : Nat.ble args.length 96 = true) (hh : evFn tab F own ownR lv9 bp n Try.f9 args h = some (r, h')) : FnAt Try.prog tab 9 args h r h' :=
  evFn_ok tabOk hF Try.func9 (by kernel_rfl) (by kernel_rfl) (by rw [← Nat.ble_eq]; exact hl) hh
def lv10 : List (Nat × List Nat) := [(0, [0]), (1, [2]), (999, [2])]
theorem fn10 {F : Fun} {own : FuncId → Bool} {ownR bp : Bool} {n : Nat} {args : List V} {h : Heap} {r : V} {h' : Heap} (hF : FSound Try.prog tab F) (hl : Nat.ble args.length 20 = true) (hh : evFn tab F own ownR lv10 bp n Try.f10 args h = some (r, h')) : FnAt Try.prog tab 10 args h r h' :=
  evFn_ok tabOk hF Try.func10 (by kernel_rfl) (by kernel_rfl) (by rw [← Nat.ble_eq]; exact hl) hh
def lv11 : List (Nat × List Nat) := [(0, [0, 1, 3, 6, 8]), (1, [3, 8, 9]), (2, [8, 9, 38, 39, 40]), (3, [8, 9, 38, 39, 40, 41]), (4, [8, 9, 10, 11, 38, 39, 40]), (5, [8, 9, 11, 38, 39, 40, 46]), (6, [8, 9, 12, 38, 39, 40]), (7, [8, 9, 12, 38, 39, 40, 51]), (8, [8, 9, 38, 39, 40]), (9, [8, 9, 38, 39, 40]), (10, [8, 9, 38, 39, 40]), (11, [8]), (999, [8]), (1000, [8, 9]), (1001, [8, 9, 38, 39, 40])]
theorem fn11 {F : Fun} {own : FuncId → Bool} {ownR bp : Bool} {n : Nat} {args : List V} {h : Heap} {r : V} {h' : Heap} (hF : FSound Try.prog tab F) (hl : Nat.ble args.length 66 = true) (hh : evFn tab F own ownR lv11 bp n Try.f11 args h = some (r, h')) : FnAt Try.prog tab 11 args h r h' :=
  evFn_ok tabOk hF Try.func11 (by kernel_rfl) (by kernel_rfl) (by rw [← Nat.ble_eq]; exact hl) hh
def lv12 : List (Nat × List Nat) := [(0, [1, 2]), (1, [1, 2, 3]), (2, [1, 2, 3, 13]), (3, [2, 3]), (4, [1, 2, 3, 13, 23]), (5, [1, 2, 3, 13, 23]), (6, [1, 2, 3]), (7, [2, 3]), (8, [1, 2, 3, 13, 43]), (9, [1, 2, 3, 13, 43]), (10, [2, 3]), (11, [1, 2, 3, 13, 50]), (12, [2, 3]), (13, [1, 2, 3, 13, 58]), (14, [2, 3]), (15, [1, 2, 3, 66]), (16, [2, 3]), (17, [2]), (999, [2]), (1000, [2, 3])]
theorem fn12 {F : Fun} {own : FuncId → Bool} {ownR bp : Bool} {n : Nat} {args : List V} {h : Heap} {r : V} {h' : Heap} (hF : FSound Try.prog tab F) (hl : Nat.ble args.length 78 = true) (hh : evFn tab F own ownR lv12 bp n Try.f12 args h = some (r, h')) : FnAt Try.prog tab 12 args h r h' :=
  evFn_ok tabOk hF Try.func12 (by kernel_rfl) (by kernel_rfl) (by rw [← Nat.ble_eq]; exact hl) hh
def lv13 : List (Nat × List Nat) := [(0, [0, 1, 2, 3, 8]), (1, [8]), (999, [8])]
theorem fn13 {F : Fun} {own : FuncId → Bool} {ownR bp : Bool} {n : Nat} {args : List V} {h : Heap} {r : V} {h' : Heap} (hF : FSound Try.prog tab F) (hl : Nat.ble args.length 14 = true) (hh : evFn tab F own ownR lv13 bp n Try.f13 args h = some (r, h')) : FnAt Try.prog tab 13 args h r h' :=
  evFn_ok tabOk hF Try.func13 (by kernel_rfl) (by kernel_rfl) (by rw [← Nat.ble_eq]; exact hl) hh
def lv14 : List (Nat × List Nat) := [(0, [0]), (1, [0, 3]), (2, [3, 6, 7, 8]), (3, [3, 6, 7, 8, 9]), (4, [3, 5, 6, 7, 8]), (5, [3, 6, 7, 8]), (6, [3, 6, 7, 8]), (7, [2]), (999, [2]), (1000, [3]), (1001, [3, 6, 7, 8])]
theorem fn14 {F : Fun} {own : FuncId → Bool} {ownR bp : Bool} {n : Nat} {args : List V} {h : Heap} {r : V} {h' : Heap} (hF : FSound Try.prog tab F) (hl : Nat.ble args.length 18 = true) (hh : evFn tab F own ownR lv14 bp n Try.f14 args h = some (r, h')) : FnAt Try.prog tab 14 args h r h' :=
  evFn_ok tabOk hF Try.func14 (by kernel_rfl) (by kernel_rfl) (by rw [← Nat.ble_eq]; exact hl) hh
def lv15 : List (Nat × List Nat) := [(0, [0]), (1, [2]), (999, [2])]
theorem fn15 {F : Fun} {own : FuncId → Bool} {ownR bp : Bool} {n : Nat} {args : List V} {h : Heap} {r : V} {h' : Heap} (hF : FSound Try.prog tab F) (hl : Nat.ble args.length 8 = true) (hh : evFn tab F own ownR lv15 bp n Try.f15 args h = some (r, h')) : FnAt Try.prog tab 15 args h r h' :=
  evFn_ok tabOk hF Try.func15 (by kernel_rfl) (by kernel_rfl) (by rw [← Nat.ble_eq]; exact hl) hh
def lv16 : List (Nat × List Nat) := [(0, [1]), (1, [6, 7, 8]), (2, [6, 7, 8, 9]), (3, [4, 6, 7, 8]), (4, [4, 6, 7, 8, 14]), (5, [2]), (6, [6, 7, 8]), (7, [2]), (999, [2]), (1000, []), (1001, [6, 7, 8])]
theorem fn16 {F : Fun} {own : FuncId → Bool} {ownR bp : Bool} {n : Nat} {args : List V} {h : Heap} {r : V} {h' : Heap} (hF : FSound Try.prog tab F) (hl : Nat.ble args.length 18 = true) (hh : evFn tab F own ownR lv16 bp n Try.f16 args h = some (r, h')) : FnAt Try.prog tab 16 args h r h' :=
  evFn_ok tabOk hF Try.func16 (by kernel_rfl) (by kernel_rfl) (by rw [← Nat.ble_eq]; exact hl) hh
end Go.Proofs.Ytlcegmkecphciaa
