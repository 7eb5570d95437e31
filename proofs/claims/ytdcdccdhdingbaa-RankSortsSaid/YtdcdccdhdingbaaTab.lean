/- The seat's table of types, as the engine wants it, and what is live behind each region. Printed by gentab.py. -/
import Derived.Test.YtdcdccdhdingbaaEngD
import Derived.Test.YtdcdccdhdingbaaRows
import Derived.KernelRfl
namespace Go.Proofs.Ytdcdccdhdingbaa
open Go Go.Eng
set_option maxRecDepth 100000
def tab : Tab := [(1, ⟨.fn, 1, 8, [.no], [.bool false], [(0, .top)]⟩),
  (2, ⟨.int .i64, 1, 8, [.int .i64], [.int .i64 0], []⟩),
  (3, ⟨.int .i64, 1, 8, [.int .i64], [.int .i64 0], []⟩),
  (4, ⟨.bool, 1, 1, [.bool], [.bool false], []⟩),
  (5, ⟨.int .u8, 1, 1, [.int .u8], [.int .u8 0], []⟩),
  (6, ⟨.int .u8, 1, 1, [.int .u8], [.int .u8 0], []⟩),
  (7, ⟨.struct [(0, 2), (1, 3), (2, 4), (3, 6)], 4, 24, [.int .i64, .int .i64, .bool, .int .u8], [.int .i64 0, .int .i64 0, .bool false, .int .u8 0], []⟩),
  (8, ⟨.struct [(0, 2), (1, 3), (2, 4), (3, 6)], 4, 24, [.int .i64, .int .i64, .bool, .int .u8], [.int .i64 0, .int .i64 0, .bool false, .int .u8 0], []⟩),
  (9, ⟨.str, 1, 16, [.str], [.str ⟨#[]⟩], []⟩),
  (10, ⟨.str, 1, 16, [.str], [.str ⟨#[]⟩], []⟩),
  (11, ⟨.str, 1, 16, [.str], [.str ⟨#[]⟩], []⟩),
  (12, ⟨.int .u64, 1, 8, [.int .u64], [.int .u64 0], []⟩),
  (15, ⟨.ptr 70, 1, 8, [.no], [.bool false], [(0, .nilp)]⟩),
  (16, ⟨.ptr 73, 1, 8, [.no], [.bool false], [(0, .nilp)]⟩),
  (17, ⟨.ptr 83, 1, 8, [.no], [.bool false], [(0, .nilp)]⟩),
  (21, ⟨.int .i32, 1, 4, [.int .i32], [.int .i32 0], []⟩),
  (22, ⟨.sl 27, 1, 24, [.sl 27], [.sl 27 []], [(0, .nils 27)]⟩),
  (23, ⟨.arr 16 5, 16, 16, [.int .u8, .int .u8, .int .u8, .int .u8, .int .u8, .int .u8, .int .u8, .int .u8, .int .u8, .int .u8, .int .u8, .int .u8, .int .u8, .int .u8, .int .u8, .int .u8], [.int .u8 0, .int .u8 0, .int .u8 0, .int .u8 0, .int .u8 0, .int .u8 0, .int .u8 0, .int .u8 0, .int .u8 0, .int .u8 0, .int .u8 0, .int .u8 0, .int .u8 0, .int .u8 0, .int .u8 0, .int .u8 0], []⟩),
  (24, ⟨.arr 16 5, 16, 16, [.int .u8, .int .u8, .int .u8, .int .u8, .int .u8, .int .u8, .int .u8, .int .u8, .int .u8, .int .u8, .int .u8, .int .u8, .int .u8, .int .u8, .int .u8, .int .u8], [.int .u8 0, .int .u8 0, .int .u8 0, .int .u8 0, .int .u8 0, .int .u8 0, .int .u8 0, .int .u8 0, .int .u8 0, .int .u8 0, .int .u8 0, .int .u8 0, .int .u8 0, .int .u8 0, .int .u8 0, .int .u8 0], []⟩),
  (25, ⟨.fn, 1, 8, [.no], [.bool false], [(0, .top)]⟩),
  (26, ⟨.struct [(0, 24), (16, 4), (17, 4)], 18, 18, [.int .u8, .int .u8, .int .u8, .int .u8, .int .u8, .int .u8, .int .u8, .int .u8, .int .u8, .int .u8, .int .u8, .int .u8, .int .u8, .int .u8, .int .u8, .int .u8, .bool, .bool], [.int .u8 0, .int .u8 0, .int .u8 0, .int .u8 0, .int .u8 0, .int .u8 0, .int .u8 0, .int .u8 0, .int .u8 0, .int .u8 0, .int .u8 0, .int .u8 0, .int .u8 0, .int .u8 0, .int .u8 0, .int .u8 0, .bool false, .bool false], []⟩),
  (27, ⟨.struct [(0, 24), (16, 4), (17, 4)], 18, 18, [.int .u8, .int .u8, .int .u8, .int .u8, .int .u8, .int .u8, .int .u8, .int .u8, .int .u8, .int .u8, .int .u8, .int .u8, .int .u8, .int .u8, .int .u8, .int .u8, .bool, .bool], [.int .u8 0, .int .u8 0, .int .u8 0, .int .u8 0, .int .u8 0, .int .u8 0, .int .u8 0, .int .u8 0, .int .u8 0, .int .u8 0, .int .u8 0, .int .u8 0, .int .u8 0, .int .u8 0, .int .u8 0, .int .u8 0, .bool false, .bool false], []⟩),
  (29, ⟨.fn, 1, 8, [.no], [.bool false], [(0, .top)]⟩),
  (30, ⟨.arr 8 3, 8, 64, [.int .i64, .int .i64, .int .i64, .int .i64, .int .i64, .int .i64, .int .i64, .int .i64], [.int .i64 0, .int .i64 0, .int .i64 0, .int .i64 0, .int .i64 0, .int .i64 0, .int .i64 0, .int .i64 0], []⟩),
  (31, ⟨.fn, 1, 8, [.no], [.bool false], [(0, .top)]⟩),
  (33, ⟨.fn, 1, 8, [.no], [.bool false], [(0, .top)]⟩),
  (34, ⟨.fn, 1, 8, [.no], [.bool false], [(0, .top)]⟩),
  (35, ⟨.fn, 1, 8, [.no], [.bool false], [(0, .top)]⟩),
  (36, ⟨.fn, 1, 8, [.no], [.bool false], [(0, .top)]⟩),
  (37, ⟨.sl 39, 1, 24, [.sl 39], [.sl 39 []], [(0, .nils 39)]⟩),
  (38, ⟨.struct [(0, 9), (1, 3), (2, 3), (3, 24), (19, 9), (20, 9)], 21, 80, [.str, .int .i64, .int .i64, .int .u8, .int .u8, .int .u8, .int .u8, .int .u8, .int .u8, .int .u8, .int .u8, .int .u8, .int .u8, .int .u8, .int .u8, .int .u8, .int .u8, .int .u8, .int .u8, .str, .str], [.str ⟨#[]⟩, .int .i64 0, .int .i64 0, .int .u8 0, .int .u8 0, .int .u8 0, .int .u8 0, .int .u8 0, .int .u8 0, .int .u8 0, .int .u8 0, .int .u8 0, .int .u8 0, .int .u8 0, .int .u8 0, .int .u8 0, .int .u8 0, .int .u8 0, .int .u8 0, .str ⟨#[]⟩, .str ⟨#[]⟩], []⟩),
  (39, ⟨.struct [(0, 9), (1, 3), (2, 3), (3, 24), (19, 9), (20, 9)], 21, 80, [.str, .int .i64, .int .i64, .int .u8, .int .u8, .int .u8, .int .u8, .int .u8, .int .u8, .int .u8, .int .u8, .int .u8, .int .u8, .int .u8, .int .u8, .int .u8, .int .u8, .int .u8, .int .u8, .str, .str], [.str ⟨#[]⟩, .int .i64 0, .int .i64 0, .int .u8 0, .int .u8 0, .int .u8 0, .int .u8 0, .int .u8 0, .int .u8 0, .int .u8 0, .int .u8 0, .int .u8 0, .int .u8 0, .int .u8 0, .int .u8 0, .int .u8 0, .int .u8 0, .int .u8 0, .int .u8 0, .str ⟨#[]⟩, .str ⟨#[]⟩], []⟩),
  (40, ⟨.fn, 1, 8, [.no], [.bool false], [(0, .top)]⟩),
  (41, ⟨.fn, 1, 8, [.no], [.bool false], [(0, .top)]⟩),
  (42, ⟨.sl 24, 1, 24, [.sl 24], [.sl 24 []], [(0, .nils 24)]⟩),
  (43, ⟨.map 3 4, 1, 8, [.no], [.bool false], [(0, .top)]⟩),
  (44, ⟨.fn, 1, 8, [.no], [.bool false], [(0, .top)]⟩),
  (45, ⟨.fn, 1, 8, [.no], [.bool false], [(0, .top)]⟩),
  (46, ⟨.fn, 1, 8, [.no], [.bool false], [(0, .top)]⟩),
  (47, ⟨.fn, 1, 8, [.no], [.bool false], [(0, .top)]⟩),
  (48, ⟨.fn, 1, 8, [.no], [.bool false], [(0, .top)]⟩),
  (49, ⟨.fn, 1, 8, [.no], [.bool false], [(0, .top)]⟩),
  (50, ⟨.struct [(0, 24), (16, 3), (17, 3), (18, 3)], 19, 40, [.int .u8, .int .u8, .int .u8, .int .u8, .int .u8, .int .u8, .int .u8, .int .u8, .int .u8, .int .u8, .int .u8, .int .u8, .int .u8, .int .u8, .int .u8, .int .u8, .int .i64, .int .i64, .int .i64], [.int .u8 0, .int .u8 0, .int .u8 0, .int .u8 0, .int .u8 0, .int .u8 0, .int .u8 0, .int .u8 0, .int .u8 0, .int .u8 0, .int .u8 0, .int .u8 0, .int .u8 0, .int .u8 0, .int .u8 0, .int .u8 0, .int .i64 0, .int .i64 0, .int .i64 0], []⟩),
  (51, ⟨.struct [(0, 24), (16, 3), (17, 3), (18, 3)], 19, 40, [.int .u8, .int .u8, .int .u8, .int .u8, .int .u8, .int .u8, .int .u8, .int .u8, .int .u8, .int .u8, .int .u8, .int .u8, .int .u8, .int .u8, .int .u8, .int .u8, .int .i64, .int .i64, .int .i64], [.int .u8 0, .int .u8 0, .int .u8 0, .int .u8 0, .int .u8 0, .int .u8 0, .int .u8 0, .int .u8 0, .int .u8 0, .int .u8 0, .int .u8 0, .int .u8 0, .int .u8 0, .int .u8 0, .int .u8 0, .int .u8 0, .int .i64 0, .int .i64 0, .int .i64 0], []⟩),
  (52, ⟨.sl 51, 1, 24, [.sl 51], [.sl 51 []], [(0, .nils 51)]⟩),
  (53, ⟨.fn, 1, 8, [.no], [.bool false], [(0, .top)]⟩),
  (54, ⟨.arr 12 5, 12, 12, [.int .u8, .int .u8, .int .u8, .int .u8, .int .u8, .int .u8, .int .u8, .int .u8, .int .u8, .int .u8, .int .u8, .int .u8], [.int .u8 0, .int .u8 0, .int .u8 0, .int .u8 0, .int .u8 0, .int .u8 0, .int .u8 0, .int .u8 0, .int .u8 0, .int .u8 0, .int .u8 0, .int .u8 0], []⟩),
  (55, ⟨.sl 5, 1, 24, [.sl 5], [.sl 5 []], [(0, .nils 5)]⟩),
  (56, ⟨.fn, 1, 8, [.no], [.bool false], [(0, .top)]⟩),
  (57, ⟨.fn, 1, 8, [.no], [.bool false], [(0, .top)]⟩),
  (58, ⟨.sl 3, 1, 24, [.sl 3], [.sl 3 []], [(0, .nils 3)]⟩),
  (59, ⟨.fn, 1, 8, [.no], [.bool false], [(0, .top)]⟩),
  (60, ⟨.fn, 1, 8, [.no], [.bool false], [(0, .top)]⟩),
  (61, ⟨.fn, 1, 8, [.no], [.bool false], [(0, .top)]⟩),
  (62, ⟨.fn, 1, 8, [.no], [.bool false], [(0, .top)]⟩),
  (63, ⟨.fn, 1, 8, [.no], [.bool false], [(0, .top)]⟩),
  (64, ⟨.fn, 1, 8, [.no], [.bool false], [(0, .top)]⟩),
  (65, ⟨.fn, 1, 8, [.no], [.bool false], [(0, .top)]⟩),
  (66, ⟨.fn, 1, 8, [.no], [.bool false], [(0, .top)]⟩),
  (67, ⟨.int .u64, 1, 8, [.int .u64], [.int .u64 0], []⟩),
  (68, ⟨.fn, 1, 8, [.no], [.bool false], [(0, .top)]⟩),
  (71, ⟨.arr 0 16, 0, 0, [], [], []⟩),
  (74, ⟨.fn, 1, 8, [.no], [.bool false], [(0, .top)]⟩),
  (75, ⟨.int .u32, 1, 4, [.int .u32], [.int .u32 0], []⟩),
  (76, ⟨.int .u8, 1, 1, [.int .u8], [.int .u8 0], []⟩),
  (77, ⟨.int .u8, 1, 1, [.int .u8], [.int .u8 0], []⟩),
  (78, ⟨.fn, 1, 8, [.no], [.bool false], [(0, .top)]⟩),
  (79, ⟨.ptr 5, 1, 8, [.no], [.bool false], [(0, .nilp)]⟩),
  (80, ⟨.int .i32, 1, 4, [.int .i32], [.int .i32 0], []⟩),
  (81, ⟨.int .i32, 1, 4, [.int .i32], [.int .i32 0], []⟩)]
theorem tabOk : TabOk Try.prog tab := by
  refine ⟨by kernel_rfl, ?_⟩
  have h : tab.all (fun p => tiOk Try.prog tab p.1 p.2) = true := by kernel_rfl
  exact fun p hp => List.all_eq_true.1 h p hp
def lv3 : List (Nat × List Nat) := [(0, [0, 4, 5]), (1, [0, 4, 5, 16]), (2, [6]), (3, [0, 4, 5, 19]), (4, [6]), (5, [4, 5, 7, 8]), (6, [4, 5, 7, 8, 9, 10]), (7, [4, 7, 8, 9, 10, 11, 12]), (8, [4, 7, 8, 9, 10, 11, 12, 13]), (9, [6]), (999, [6])]
theorem fn3 {F : Fun} {own : FuncId → Bool} {ownR bp : Bool} {n : Nat} {args : List V} {h : Heap} {r : V} {h' : Heap} (hF : FSound Try.prog tab F) (hl : Nat.ble args.length 105 = true) (hh : evFn tab F own ownR lv3 bp n Try.f3 args h = some (r, h')) : FnAt Try.prog tab 3 args h r h' :=
  evFn_ok tabOk hF Try.func3 (by kernel_rfl) (by kernel_rfl) (by rw [← Nat.ble_eq]; exact hl) hh
def lv4 : List (Nat × List Nat) := [(0, [0, 1]), (1, [0, 1, 21]), (2, [4]), (3, [0, 1, 29]), (4, [4]), (5, [0, 1, 30, 31, 32]), (6, [0, 1, 30, 31, 32, 33]), (7, [0, 1, 6, 30, 31, 32]), (8, [0, 1, 6, 7, 8, 30, 31, 32]), (9, [0, 1, 6, 7, 8, 9, 30, 31, 32]), (10, [0, 1, 6, 7, 8, 9, 30, 31, 32, 43, 44, 45]), (11, [0, 1, 6, 7, 8, 9, 30, 31, 32, 43, 44, 45, 46]), (12, [0, 1, 6, 7, 8, 9, 11, 30, 31, 32, 43, 44, 45]), (13, [0, 1, 6, 7, 8, 9, 30, 31, 32, 43, 44, 45]), (14, [0, 1, 6, 7, 8, 9, 30, 31, 32, 43, 44, 45]), (15, [0, 1, 30, 31, 32, 74]), (16, [4]), (17, [0, 1, 30, 31, 32]), (18, [1, 12]), (19, [1, 12, 79, 80, 81]), (20, [1, 12, 79, 80, 81, 82]), (21, [1, 12, 14, 79, 80, 81]), (22, [1, 12, 14, 15, 79, 80, 81]), (23, [1, 12, 14, 15, 79, 80, 81, 85, 86, 87]), (24, [1, 12, 14, 15, 79, 80, 81, 85, 86, 87, 88]), (25, [1, 12, 14, 15, 17, 79, 80, 81, 85, 86, 87]), (26, [1, 12, 14, 15, 79, 80, 81, 85, 86, 87, 93]), (27, [1, 12, 14, 15, 79, 80, 81, 85, 86, 87]), (28, [1, 12, 14, 15, 79, 80, 81, 85, 86, 87]), (29, [1, 12, 14, 15, 79, 80, 81, 97, 98, 99]), (30, [1, 12, 14, 15, 79, 80, 81, 97, 98, 99, 100]), (31, [1, 12, 14, 15, 19, 79, 80, 81, 97, 98, 99]), (32, [1, 12, 14, 15, 79, 80, 81, 97, 98, 99, 105]), (33, [1, 12, 14, 15, 79, 80, 81, 97, 98, 99]), (34, [1, 12, 14, 15, 79, 80, 81, 97, 98, 99]), (35, [1, 12, 79, 80, 81, 110]), (36, [4]), (37, [1, 12, 79, 80, 81]), (38, [4]), (999, [4]), (1000, [0, 1]), (1001, [0, 1, 30, 31, 32]), (1002, [0, 1, 6, 7, 8, 9, 30, 31, 32]), (1003, [0, 1, 6, 7, 8, 9, 30, 31, 32, 43, 44, 45]), (1004, [1, 12]), (1005, [1, 12, 79, 80, 81]), (1006, [1, 12, 14, 15, 79, 80, 81]), (1007, [1, 12, 14, 15, 79, 80, 81, 85, 86, 87]), (1008, [1, 12, 15, 79, 80, 81]), (1009, [1, 12, 14, 15, 79, 80, 81, 97, 98, 99])]
theorem fn4 {F : Fun} {own : FuncId → Bool} {ownR bp : Bool} {n : Nat} {args : List V} {h : Heap} {r : V} {h' : Heap} (hF : FSound Try.prog tab F) (hl : Nat.ble args.length 117 = true) (hh : evFn tab F own ownR lv4 bp n Try.f4 args h = some (r, h')) : FnAt Try.prog tab 4 args h r h' :=
  evFn_ok tabOk hF Try.func4 (by kernel_rfl) (by kernel_rfl) (by rw [← Nat.ble_eq]; exact hl) hh
def lv5 : List (Nat × List Nat) := [(0, [0, 1]), (1, [0, 1, 14]), (2, [4]), (3, [0, 1, 22]), (4, [4]), (5, [0, 1, 5]), (6, [0, 5, 23, 24, 25]), (7, [0, 5, 23, 24, 25, 26]), (8, [0, 5, 6, 7, 23, 24, 25]), (9, [0, 5, 23, 24, 25]), (10, [0, 5, 23, 24, 25]), (11, [0, 5, 8]), (12, [0, 5, 8, 44]), (13, [4]), (14, [0, 5, 8, 9]), (15, [0, 5, 8, 9, 46, 47, 48]), (16, [0, 5, 8, 9, 46, 47, 48, 49]), (17, [0, 5, 8, 9, 10, 11, 46, 47, 48]), (18, [0, 5, 8, 9, 10, 11, 46, 47, 48, 77]), (19, [4]), (20, [0, 5, 8, 9, 10, 11, 46, 47, 48]), (21, [0, 5, 8, 9, 10, 11, 46, 47, 48, 82]), (22, [0, 5, 8, 9, 11, 12, 46, 47, 48]), (23, [0, 5, 8, 9, 46, 47, 48, 109]), (24, [4]), (25, [0, 5, 8, 9, 46, 47, 48]), (26, [4]), (999, [4]), (1000, [0, 5]), (1001, [0, 5, 23, 24, 25]), (1002, []), (1003, [0, 5, 8, 9, 46, 47, 48])]
theorem fn5 {F : Fun} {own : FuncId → Bool} {ownR bp : Bool} {n : Nat} {args : List V} {h : Heap} {r : V} {h' : Heap} (hF : FSound Try.prog tab F) (hl : Nat.ble args.length 111 = true) (hh : evFn tab F own ownR lv5 bp n Try.f5 args h = some (r, h')) : FnAt Try.prog tab 5 args h r h' :=
  evFn_ok tabOk hF Try.func5 (by kernel_rfl) (by kernel_rfl) (by rw [← Nat.ble_eq]; exact hl) hh
def lv6 : List (Nat × List Nat) := [(0, [1]), (1, [1, 8]), (2, [2]), (3, [1, 3, 4]), (4, [1, 3, 4, 5, 6]), (5, [2]), (999, [2])]
theorem fn6 {F : Fun} {own : FuncId → Bool} {ownR bp : Bool} {n : Nat} {args : List V} {h : Heap} {r : V} {h' : Heap} (hF : FSound Try.prog tab F) (hl : Nat.ble args.length 34 = true) (hh : evFn tab F own ownR lv6 bp n Try.f6 args h = some (r, h')) : FnAt Try.prog tab 6 args h r h' :=
  evFn_ok tabOk hF Try.func6 (by kernel_rfl) (by kernel_rfl) (by rw [← Nat.ble_eq]; exact hl) hh
def lv7 : List (Nat × List Nat) := [(0, [0, 4, 5]), (1, [0, 4, 5, 12]), (2, [6]), (3, [0, 4, 5, 15]), (4, [6]), (5, [0, 4, 5, 7, 8]), (6, [0, 4, 5, 7, 8, 9]), (7, [0, 4, 5, 7, 8, 9, 22]), (8, [0, 4, 5, 7, 8, 9, 22, 23]), (9, [0, 4, 5, 7, 8, 9, 10, 22]), (10, [0, 4, 5, 7, 8, 9, 10, 22, 35]), (11, [0, 4, 5, 7, 8, 9, 10, 22]), (12, [0, 4, 5, 7, 8, 9, 22, 42]), (13, [0, 4, 5, 7, 8, 9, 22]), (14, [0, 4, 5, 7, 8, 9, 22]), (15, [6]), (999, [6]), (1000, [0, 4, 5, 9]), (1001, [0, 4, 5, 7, 8, 9, 22])]
theorem fn7 {F : Fun} {own : FuncId → Bool} {ownR bp : Bool} {n : Nat} {args : List V} {h : Heap} {r : V} {h' : Heap} (hF : FSound Try.prog tab F) (hl : Nat.ble args.length 60 = true) (hh : evFn tab F own ownR lv7 bp n Try.f7 args h = some (r, h')) : FnAt Try.prog tab 7 args h r h' :=
  evFn_ok tabOk hF Try.func7 (by kernel_rfl) (by kernel_rfl) (by rw [← Nat.ble_eq]; exact hl) hh
def lv8 : List (Nat × List Nat) := [(0, [0, 1, 2]), (1, [0, 1, 2, 12]), (2, [6]), (3, [0, 1, 2, 25]), (4, [6]), (5, [0, 1, 2]), (6, [0, 1, 2, 7, 8]), (7, [0, 1, 2, 7, 8, 37, 38]), (8, [0, 1, 2, 7, 8, 37, 38, 39]), (9, [0, 1, 2, 7, 8, 9, 37, 38]), (10, [0, 1, 2, 7, 8, 9, 37, 38]), (11, [0, 1, 2, 7, 8, 37, 38]), (12, [0, 1, 2, 7, 8, 37, 38]), (13, [0, 7, 8]), (14, [0, 7, 8, 73]), (15, [6]), (16, [0, 7, 8, 75, 76]), (17, [0, 7, 8, 75, 76, 77]), (18, [0, 7, 8, 10, 75, 76]), (19, [0, 7, 8, 75, 76, 93]), (20, [6]), (21, [0, 7, 8, 75, 76]), (22, [6]), (999, [6]), (1000, [0, 7, 8]), (1001, [0, 1, 2, 7, 8, 37, 38]), (1002, []), (1003, [0, 7, 8, 75, 76])]
theorem fn8 {F : Fun} {own : FuncId → Bool} {ownR bp : Bool} {n : Nat} {args : List V} {h : Heap} {r : V} {h' : Heap} (hF : FSound Try.prog tab F) (hl : Nat.ble args.length 95 = true) (hh : evFn tab F own ownR lv8 bp n Try.f8 args h = some (r, h')) : FnAt Try.prog tab 8 args h r h' :=
  evFn_ok tabOk hF Try.func8 (by kernel_rfl) (by kernel_rfl) (by rw [← Nat.ble_eq]; exact hl) hh
def lv9 : List (Nat × List Nat) := [(0, []), (1, [1]), (2, [2]), (3, [0]), (999, [0])]
theorem fn9 {F : Fun} {own : FuncId → Bool} {ownR bp : Bool} {n : Nat} {args : List V} {h : Heap} {r : V} {h' : Heap} (hF : FSound Try.prog tab F) (hl : Nat.ble args.length 23 = true) (hh : evFn tab F own ownR lv9 bp n Try.f9 args h = some (r, h')) : FnAt Try.prog tab 9 args h r h' :=
  evFn_ok tabOk hF Try.func9 (by kernel_rfl) (by kernel_rfl) (by rw [← Nat.ble_eq]; exact hl) hh
def lv10 : List (Nat × List Nat) := [(0, [0, 3, 4]), (1, [0, 3, 4, 6]), (2, [0, 3, 4, 6, 7]), (3, [3, 4, 6, 7, 10, 11, 12]), (4, [3, 4, 6, 7, 10, 11, 12, 13]), (5, [3, 4, 6, 7, 9, 10, 11, 12]), (6, [3, 4, 6, 7, 9, 10, 11, 12, 32]), (7, [3, 4, 6, 7, 10, 11, 12]), (8, [3, 4, 6, 7, 10, 11, 12]), (9, [4, 5]), (999, [4, 5]), (1000, [4, 6, 7]), (1001, [3, 4, 6, 7, 10, 11, 12])]
theorem fn10 {F : Fun} {own : FuncId → Bool} {ownR bp : Bool} {n : Nat} {args : List V} {h : Heap} {r : V} {h' : Heap} (hF : FSound Try.prog tab F) (hl : Nat.ble args.length 37 = true) (hh : evFn tab F own ownR lv10 bp n Try.f10 args h = some (r, h')) : FnAt Try.prog tab 10 args h r h' :=
  evFn_ok tabOk hF Try.func10 (by kernel_rfl) (by kernel_rfl) (by rw [← Nat.ble_eq]; exact hl) hh
def lv11 : List (Nat × List Nat) := [(0, [0, 3, 4]), (1, [3, 4, 5, 6]), (2, [3, 4, 5, 6, 7, 8]), (3, [3, 4, 5, 7, 8, 23]), (4, [4]), (5, [3, 4, 5, 7, 8, 10]), (6, [4]), (999, [4])]
theorem fn11 {F : Fun} {own : FuncId → Bool} {ownR bp : Bool} {n : Nat} {args : List V} {h : Heap} {r : V} {h' : Heap} (hF : FSound Try.prog tab F) (hl : Nat.ble args.length 62 = true) (hh : evFn tab F own ownR lv11 bp n Try.f11 args h = some (r, h')) : FnAt Try.prog tab 11 args h r h' :=
  evFn_ok tabOk hF Try.func11 (by kernel_rfl) (by kernel_rfl) (by rw [← Nat.ble_eq]; exact hl) hh
def lv12 : List (Nat × List Nat) := [(0, [1]), (1, [1, 4]), (2, [1, 4, 8, 9, 10]), (3, [1, 4, 8, 9, 10, 11]), (4, [1, 4, 6, 8, 9, 10]), (5, [1, 4, 6, 8, 9, 10, 27]), (6, [1, 4, 8, 9, 10]), (7, [1, 4, 8, 9, 10]), (8, [2, 3]), (999, [2, 3]), (1000, [4]), (1001, [1, 4, 8, 9, 10])]
theorem fn12 {F : Fun} {own : FuncId → Bool} {ownR bp : Bool} {n : Nat} {args : List V} {h : Heap} {r : V} {h' : Heap} (hF : FSound Try.prog tab F) (hl : Nat.ble args.length 34 = true) (hh : evFn tab F own ownR lv12 bp n Try.f12 args h = some (r, h')) : FnAt Try.prog tab 12 args h r h' :=
  evFn_ok tabOk hF Try.func12 (by kernel_rfl) (by kernel_rfl) (by rw [← Nat.ble_eq]; exact hl) hh
def lv13 : List (Nat × List Nat) := [(0, [1]), (1, [1, 4]), (2, [17]), (3, [2]), (4, [2]), (5, [1, 18]), (6, [2]), (7, [1, 26]), (8, [2]), (9, [41]), (10, [2]), (11, [2]), (999, [2]), (1000, [])]
theorem fn13 {F : Fun} {own : FuncId → Bool} {ownR bp : Bool} {n : Nat} {args : List V} {h : Heap} {r : V} {h' : Heap} (hF : FSound Try.prog tab F) (hl : Nat.ble args.length 51 = true) (hh : evFn tab F own ownR lv13 bp n Try.f13 args h = some (r, h')) : FnAt Try.prog tab 13 args h r h' :=
  evFn_ok tabOk hF Try.func13 (by kernel_rfl) (by kernel_rfl) (by rw [← Nat.ble_eq]; exact hl) hh
def lv14 : List (Nat × List Nat) := [(0, [1]), (1, [2]), (999, [2])]
theorem fn14 {F : Fun} {own : FuncId → Bool} {ownR bp : Bool} {n : Nat} {args : List V} {h : Heap} {r : V} {h' : Heap} (hF : FSound Try.prog tab F) (hl : Nat.ble args.length 8 = true) (hh : evFn tab F own ownR lv14 bp n Try.f14 args h = some (r, h')) : FnAt Try.prog tab 14 args h r h' :=
  evFn_ok tabOk hF Try.func14 (by kernel_rfl) (by kernel_rfl) (by rw [← Nat.ble_eq]; exact hl) hh
def lv15 : List (Nat × List Nat) := [(0, [1, 2]), (1, [2, 5]), (2, [5]), (3, [4]), (999, [4])]
theorem fn15 {F : Fun} {own : FuncId → Bool} {ownR bp : Bool} {n : Nat} {args : List V} {h : Heap} {r : V} {h' : Heap} (hF : FSound Try.prog tab F) (hl : Nat.ble args.length 12 = true) (hh : evFn tab F own ownR lv15 bp n Try.f15 args h = some (r, h')) : FnAt Try.prog tab 15 args h r h' :=
  evFn_ok tabOk hF Try.func15 (by kernel_rfl) (by kernel_rfl) (by rw [← Nat.ble_eq]; exact hl) hh
def lv16 : List (Nat × List Nat) := [(0, [0, 4, 5]), (1, [0, 4, 5, 7, 8]), (2, [4, 5, 7, 8, 9, 10]), (3, [4, 5, 7, 8, 9, 35]), (4, [6]), (5, [4, 5, 7, 8, 9, 11, 12]), (6, [4, 5, 7, 8, 9, 11, 12, 13, 14]), (7, [4, 5, 7, 8, 9, 11, 12, 13, 14, 47]), (8, [4, 5, 7, 8, 9, 11, 12, 13, 14, 15]), (9, [4, 5, 7, 8, 9, 11, 12, 13, 14, 15, 16]), (10, [4, 5, 7, 8, 9, 11, 12, 13, 14, 15, 62]), (11, [6]), (12, [4, 5, 7, 8, 9, 11, 12, 13, 14, 68]), (13, [6]), (14, [4, 5, 7, 8, 9, 11, 12, 13, 14, 75]), (15, [6]), (16, [4, 5, 7, 8, 9, 11, 12, 13, 14, 18]), (17, [4, 5, 7, 8, 9, 11, 12, 13, 14, 18, 20]), (18, [4, 5, 7, 8, 9, 11, 12, 13, 18, 96]), (19, [6]), (20, [4, 5, 7, 8, 9, 11, 13, 102]), (21, [6]), (22, [4, 5, 7, 8, 9, 110]), (23, [6]), (24, [6]), (999, [6])]
theorem fn16 {F : Fun} {own : FuncId → Bool} {ownR bp : Bool} {n : Nat} {args : List V} {h : Heap} {r : V} {h' : Heap} (hF : FSound Try.prog tab F) (hl : Nat.ble args.length 128 = true) (hh : evFn tab F own ownR lv16 bp n Try.f16 args h = some (r, h')) : FnAt Try.prog tab 16 args h r h' :=
  evFn_ok tabOk hF Try.func16 (by kernel_rfl) (by kernel_rfl) (by rw [← Nat.ble_eq]; exact hl) hh
def lv17 : List (Nat × List Nat) := [(0, [1]), (1, [1, 4]), (2, [1, 4, 5]), (3, [1, 4, 5, 7]), (4, [1, 4, 5]), (5, [1, 4, 5]), (6, [1, 4, 17]), (7, [2, 3]), (8, [1, 4, 24]), (9, [2, 3]), (10, [1, 27]), (11, [2, 3]), (12, [1, 29]), (13, [2, 3]), (14, [1, 48]), (15, [2, 3]), (16, [1, 57]), (17, [2, 3]), (18, [1, 66]), (19, [2, 3]), (20, [75]), (21, [2, 3]), (22, [2, 3]), (999, [2, 3]), (1000, [1, 4]), (1001, [1, 4, 5]), (1002, [])]
theorem fn17 {F : Fun} {own : FuncId → Bool} {ownR bp : Bool} {n : Nat} {args : List V} {h : Heap} {r : V} {h' : Heap} (hF : FSound Try.prog tab F) (hl : Nat.ble args.length 84 = true) (hh : evFn tab F own ownR lv17 bp n Try.f17 args h = some (r, h')) : FnAt Try.prog tab 17 args h r h' :=
  evFn_ok tabOk hF Try.func17 (by kernel_rfl) (by kernel_rfl) (by rw [← Nat.ble_eq]; exact hl) hh
def lv18 : List (Nat × List Nat) := [(0, [1]), (1, [1, 3]), (2, [2]), (3, [1, 21]), (4, [2]), (5, [1, 24]), (6, [2]), (7, [1, 32]), (8, [2]), (9, [51]), (10, [2]), (11, [2]), (999, [2]), (1000, [])]
theorem fn18 {F : Fun} {own : FuncId → Bool} {ownR bp : Bool} {n : Nat} {args : List V} {h : Heap} {r : V} {h' : Heap} (hF : FSound Try.prog tab F) (hl : Nat.ble args.length 60 = true) (hh : evFn tab F own ownR lv18 bp n Try.f18 args h = some (r, h')) : FnAt Try.prog tab 18 args h r h' :=
  evFn_ok tabOk hF Try.func18 (by kernel_rfl) (by kernel_rfl) (by rw [← Nat.ble_eq]; exact hl) hh
def lv19 : List (Nat × List Nat) := [(0, [0, 1, 2, 3, 8]), (1, [8]), (999, [8])]
theorem fn19 {F : Fun} {own : FuncId → Bool} {ownR bp : Bool} {n : Nat} {args : List V} {h : Heap} {r : V} {h' : Heap} (hF : FSound Try.prog tab F) (hl : Nat.ble args.length 14 = true) (hh : evFn tab F own ownR lv19 bp n Try.f19 args h = some (r, h')) : FnAt Try.prog tab 19 args h r h' :=
  evFn_ok tabOk hF Try.func19 (by kernel_rfl) (by kernel_rfl) (by rw [← Nat.ble_eq]; exact hl) hh
def lv20 : List (Nat × List Nat) := [(0, [3, 4, 5]), (1, [3, 4, 5, 7]), (2, [3, 4, 5, 7, 32]), (3, [6]), (4, [3, 4, 5, 8, 9, 10]), (5, [3, 4, 5, 8, 9, 10, 44]), (6, [8, 9, 10, 47]), (7, [6]), (8, [6]), (9, [3, 4, 5, 11]), (10, [3, 4, 5, 11, 68]), (11, [6]), (12, [3, 4, 5, 12]), (13, [3, 4, 5, 12, 78]), (14, [6]), (15, [3, 4, 5, 14]), (16, [3, 4, 5, 14, 16]), (17, [3, 4, 5, 14, 16, 18]), (18, [3, 4, 5, 19]), (19, [3, 4, 5, 19, 107]), (20, [6]), (21, [6]), (999, [6])]
theorem fn20 {F : Fun} {own : FuncId → Bool} {ownR bp : Bool} {n : Nat} {args : List V} {h : Heap} {r : V} {h' : Heap} (hF : FSound Try.prog tab F) (hl : Nat.ble args.length 118 = true) (hh : evFn tab F own ownR lv20 bp n Try.f20 args h = some (r, h')) : FnAt Try.prog tab 20 args h r h' :=
  evFn_ok tabOk hF Try.func20 (by kernel_rfl) (by kernel_rfl) (by rw [← Nat.ble_eq]; exact hl) hh
def lv21 : List (Nat × List Nat) := [(0, [0]), (1, [3]), (2, [2]), (3, [2]), (999, [2])]
theorem fn21 {F : Fun} {own : FuncId → Bool} {ownR bp : Bool} {n : Nat} {args : List V} {h : Heap} {r : V} {h' : Heap} (hF : FSound Try.prog tab F) (hl : Nat.ble args.length 4 = true) (hh : evFn tab F own ownR lv21 bp n Try.f21 args h = some (r, h')) : FnAt Try.prog tab 21 args h r h' :=
  evFn_ok tabOk hF Try.func21 (by kernel_rfl) (by kernel_rfl) (by rw [← Nat.ble_eq]; exact hl) hh
def lv22 : List (Nat × List Nat) := [(0, [2, 3]), (1, [2, 3, 7]), (2, [2, 3, 7, 8]), (3, [2, 3, 5, 7]), (4, [2, 3, 5, 6, 7]), (5, [2, 3, 5, 6, 7, 11]), (6, [2, 3, 5, 6, 7]), (7, [2, 3, 5, 6, 7, 24]), (8, [4]), (9, [2, 3, 7]), (10, [4]), (999, [4]), (1000, []), (1001, [2, 3, 7]), (1002, [2, 3, 7]), (1003, [2, 3, 5, 6, 7])]
theorem fn22 {F : Fun} {own : FuncId → Bool} {ownR bp : Bool} {n : Nat} {args : List V} {h : Heap} {r : V} {h' : Heap} (hF : FSound Try.prog tab F) (hl : Nat.ble args.length 31 = true) (hh : evFn tab F own ownR lv22 bp n Try.f22 args h = some (r, h')) : FnAt Try.prog tab 22 args h r h' :=
  evFn_ok tabOk hF Try.func22 (by kernel_rfl) (by kernel_rfl) (by rw [← Nat.ble_eq]; exact hl) hh
def lv23 : List (Nat × List Nat) := [(0, []), (1, [0]), (999, [0])]
theorem fn23 {F : Fun} {own : FuncId → Bool} {ownR bp : Bool} {n : Nat} {args : List V} {h : Heap} {r : V} {h' : Heap} (hF : FSound Try.prog tab F) (hl : Nat.ble args.length 20 = true) (hh : evFn tab F own ownR lv23 bp n Try.f23 args h = some (r, h')) : FnAt Try.prog tab 23 args h r h' :=
  evFn_ok tabOk hF Try.func23 (by kernel_rfl) (by kernel_rfl) (by rw [← Nat.ble_eq]; exact hl) hh
def lv24 : List (Nat × List Nat) := [(0, []), (999, [])]
theorem fn24 {F : Fun} {own : FuncId → Bool} {ownR bp : Bool} {n : Nat} {args : List V} {h : Heap} {r : V} {h' : Heap} (hF : FSound Try.prog tab F) (hl : Nat.ble args.length 9 = true) (hh : evFn tab F own ownR lv24 bp n Try.f24 args h = some (r, h')) : FnAt Try.prog tab 24 args h r h' :=
  evFn_ok tabOk hF Try.func24 (by kernel_rfl) (by kernel_rfl) (by rw [← Nat.ble_eq]; exact hl) hh
def lv25 : List (Nat × List Nat) := [(0, [2, 3, 4]), (1, [6, 7]), (2, [5]), (999, [5])]
theorem fn25 {F : Fun} {own : FuncId → Bool} {ownR bp : Bool} {n : Nat} {args : List V} {h : Heap} {r : V} {h' : Heap} (hF : FSound Try.prog tab F) (hl : Nat.ble args.length 19 = true) (hh : evFn tab F own ownR lv25 bp n Try.f25 args h = some (r, h')) : FnAt Try.prog tab 25 args h r h' :=
  evFn_ok tabOk hF Try.func25 (by kernel_rfl) (by kernel_rfl) (by rw [← Nat.ble_eq]; exact hl) hh
def lv26 : List (Nat × List Nat) := [(0, [0, 1]), (1, [0, 1, 9, 10, 11]), (2, [0, 1, 9, 10, 11, 12]), (3, [0, 1, 5, 6, 9, 10, 11]), (4, [0, 1, 5, 6, 9, 10, 11, 19]), (5, [4]), (6, [0, 1, 6, 7, 9, 10, 11]), (7, [0, 1, 8, 9, 10, 11]), (8, [0, 1, 8, 9, 10, 11, 28]), (9, [4]), (10, [0, 1, 9, 10, 11]), (11, [35]), (12, [4]), (13, [4]), (999, [4]), (1000, [0, 1]), (1001, [0, 1, 9, 10, 11])]
theorem fn26 {F : Fun} {own : FuncId → Bool} {ownR bp : Bool} {n : Nat} {args : List V} {h : Heap} {r : V} {h' : Heap} (hF : FSound Try.prog tab F) (hl : Nat.ble args.length 36 = true) (hh : evFn tab F own ownR lv26 bp n Try.f26 args h = some (r, h')) : FnAt Try.prog tab 26 args h r h' :=
  evFn_ok tabOk hF Try.func26 (by kernel_rfl) (by kernel_rfl) (by rw [← Nat.ble_eq]; exact hl) hh
def lv27 : List (Nat × List Nat) := [(0, [0, 3, 4]), (1, [0, 3, 4, 6]), (2, [0, 3, 4, 6, 7]), (3, [0, 3, 4, 6, 7, 11]), (4, [0, 3, 4, 6, 7]), (5, [0, 3, 4, 6, 7, 22]), (6, [0, 3, 4, 6, 7, 36]), (7, [0, 3, 4, 6, 7]), (8, [0, 4, 6, 39]), (9, [4, 5]), (10, [4, 5]), (999, [4, 5]), (1000, [0, 4, 6]), (1001, [0, 3, 4, 6, 7])]
theorem fn27 {F : Fun} {own : FuncId → Bool} {ownR bp : Bool} {n : Nat} {args : List V} {h : Heap} {r : V} {h' : Heap} (hF : FSound Try.prog tab F) (hl : Nat.ble args.length 45 = true) (hh : evFn tab F own ownR lv27 bp n Try.f27 args h = some (r, h')) : FnAt Try.prog tab 27 args h r h' :=
  evFn_ok tabOk hF Try.func27 (by kernel_rfl) (by kernel_rfl) (by rw [← Nat.ble_eq]; exact hl) hh
def lv28 : List (Nat × List Nat) := [(0, [2, 3]), (1, [2, 3, 5]), (2, [2, 3, 5, 7]), (3, [2, 3, 5]), (4, [2, 3, 5, 16]), (5, [4]), (6, [4]), (999, [4]), (1000, []), (1001, [2, 3, 5])]
theorem fn28 {F : Fun} {own : FuncId → Bool} {ownR bp : Bool} {n : Nat} {args : List V} {h : Heap} {r : V} {h' : Heap} (hF : FSound Try.prog tab F) (hl : Nat.ble args.length 18 = true) (hh : evFn tab F own ownR lv28 bp n Try.f28 args h = some (r, h')) : FnAt Try.prog tab 28 args h r h' :=
  evFn_ok tabOk hF Try.func28 (by kernel_rfl) (by kernel_rfl) (by rw [← Nat.ble_eq]; exact hl) hh
def lv29 : List (Nat × List Nat) := [(0, [1]), (1, [1, 3]), (2, [1, 3, 5]), (3, [1, 3]), (4, [1, 3, 11]), (5, [2]), (6, [2]), (999, [2]), (1000, [1]), (1001, [1, 3])]
theorem fn29 {F : Fun} {own : FuncId → Bool} {ownR bp : Bool} {n : Nat} {args : List V} {h : Heap} {r : V} {h' : Heap} (hF : FSound Try.prog tab F) (hl : Nat.ble args.length 20 = true) (hh : evFn tab F own ownR lv29 bp n Try.f29 args h = some (r, h')) : FnAt Try.prog tab 29 args h r h' :=
  evFn_ok tabOk hF Try.func29 (by kernel_rfl) (by kernel_rfl) (by rw [← Nat.ble_eq]; exact hl) hh
def lv30 : List (Nat × List Nat) := [(0, [0, 1, 2, 6]), (1, [0, 1, 2, 6, 7, 8]), (2, [0, 1, 2, 6, 7, 8, 13]), (3, [0, 1, 2, 6, 8]), (4, [0, 1, 2, 6, 7, 8]), (5, [0, 1, 2, 6, 7, 8]), (6, [0, 1, 2, 6]), (7, [0, 1, 2, 6, 30]), (8, [0, 1, 2, 6, 7, 8]), (9, [0, 1, 2, 6, 7, 8, 35]), (10, [0, 1, 2, 6, 8]), (11, [0, 1, 2, 6, 7, 8]), (12, [0, 1, 2, 6, 7, 8]), (13, [0, 1, 2, 6, 7, 9]), (14, [0, 1, 2, 6, 7, 9, 54]), (15, [0, 1, 2, 6]), (16, [0, 1, 2, 6]), (999, []), (1000, [0, 1, 2, 6, 7]), (1001, [0, 1, 2, 6, 7, 8]), (1002, []), (1003, [0, 1, 2, 6]), (1004, [0, 1, 2, 6, 7]), (1005, [0, 1, 2, 6, 7, 8])]
theorem fn30 {F : Fun} {own : FuncId → Bool} {ownR bp : Bool} {n : Nat} {args : List V} {h : Heap} {r : V} {h' : Heap} (hF : FSound Try.prog tab F) (hl : Nat.ble args.length 63 = true) (hh : evFn tab F own ownR lv30 bp n Try.f30 args h = some (r, h')) : FnAt Try.prog tab 30 args h r h' :=
  evFn_ok tabOk hF Try.func30 (by kernel_rfl) (by kernel_rfl) (by rw [← Nat.ble_eq]; exact hl) hh
def lv31 : List (Nat × List Nat) := [(0, [0, 1]), (1, [0, 1, 5]), (2, [0, 1, 5, 6]), (3, [0, 1, 6, 11]), (4, [12]), (5, [4]), (6, [4]), (7, [0, 1, 13]), (8, [4]), (9, [0, 1, 16]), (10, [4]), (11, [19]), (12, [4]), (13, [4]), (999, [4])]
theorem fn31 {F : Fun} {own : FuncId → Bool} {ownR bp : Bool} {n : Nat} {args : List V} {h : Heap} {r : V} {h' : Heap} (hF : FSound Try.prog tab F) (hl : Nat.ble args.length 20 = true) (hh : evFn tab F own ownR lv31 bp n Try.f31 args h = some (r, h')) : FnAt Try.prog tab 31 args h r h' :=
  evFn_ok tabOk hF Try.func31 (by kernel_rfl) (by kernel_rfl) (by rw [← Nat.ble_eq]; exact hl) hh
def lv32 : List (Nat × List Nat) := [(0, [3, 4, 5]), (1, [3, 4, 5, 24]), (2, [6]), (3, [3, 4, 5, 7]), (4, [3, 4, 5, 7, 8]), (5, [3, 4, 5, 7, 8, 9]), (6, [3, 4, 5, 7, 8, 9, 39]), (7, [6]), (8, [3, 4, 5, 8, 9, 45]), (9, [6]), (10, [3, 4, 5, 53]), (11, [6]), (12, [3, 4, 5, 60]), (13, [6]), (14, [3, 4, 5, 11]), (15, [3, 4, 5, 11, 13]), (16, [3, 4, 5, 11, 13, 15]), (17, [3, 4, 5, 11, 15, 86]), (18, [6]), (19, [6]), (999, [6])]
theorem fn32 {F : Fun} {own : FuncId → Bool} {ownR bp : Bool} {n : Nat} {args : List V} {h : Heap} {r : V} {h' : Heap} (hF : FSound Try.prog tab F) (hl : Nat.ble args.length 99 = true) (hh : evFn tab F own ownR lv32 bp n Try.f32 args h = some (r, h')) : FnAt Try.prog tab 32 args h r h' :=
  evFn_ok tabOk hF Try.func32 (by kernel_rfl) (by kernel_rfl) (by rw [← Nat.ble_eq]; exact hl) hh
def lv33 : List (Nat × List Nat) := [(0, [1, 2]), (1, [4]), (999, [4])]
theorem fn33 {F : Fun} {own : FuncId → Bool} {ownR bp : Bool} {n : Nat} {args : List V} {h : Heap} {r : V} {h' : Heap} (hF : FSound Try.prog tab F) (hl : Nat.ble args.length 15 = true) (hh : evFn tab F own ownR lv33 bp n Try.f33 args h = some (r, h')) : FnAt Try.prog tab 33 args h r h' :=
  evFn_ok tabOk hF Try.func33 (by kernel_rfl) (by kernel_rfl) (by rw [← Nat.ble_eq]; exact hl) hh
def lv34 : List (Nat × List Nat) := [(0, [0, 1, 2, 3, 8]), (1, [0, 1, 2, 3, 8, 14]), (2, [0, 1, 2, 3, 8]), (3, [0, 1, 2, 3, 8, 9]), (4, [0, 1, 2, 3, 8, 9, 34]), (5, [0, 1, 2, 3, 8, 9]), (6, [0, 1, 2, 3, 8, 9]), (999, []), (1000, []), (1001, [0, 1, 2, 3, 8]), (1002, [0, 1, 2, 3, 8]), (1003, [0, 1, 2, 3, 8, 9])]
theorem fn34 {F : Fun} {own : FuncId → Bool} {ownR bp : Bool} {n : Nat} {args : List V} {h : Heap} {r : V} {h' : Heap} (hF : FSound Try.prog tab F) (hl : Nat.ble args.length 53 = true) (hh : evFn tab F own ownR lv34 bp n Try.f34 args h = some (r, h')) : FnAt Try.prog tab 34 args h r h' :=
  evFn_ok tabOk hF Try.func34 (by kernel_rfl) (by kernel_rfl) (by rw [← Nat.ble_eq]; exact hl) hh
def lv35 : List (Nat × List Nat) := [(0, [0, 1, 2, 3, 4, 28]), (1, [0, 1, 3, 4, 10]), (2, [0, 1, 4, 10, 11]), (3, [0, 1, 4, 10, 11, 33]), (4, [0, 1, 4, 10, 11, 12]), (5, [0, 1, 4, 10, 11, 12, 50]), (6, [0, 1, 4, 10, 11]), (7, [0, 1, 4, 10, 11]), (8, [0, 10, 13]), (9, [0, 10, 13, 58]), (10, [0, 10, 13]), (11, [0, 10, 13]), (12, [0, 1, 2, 3, 4, 80]), (13, [0, 2, 4, 14]), (14, [0, 2, 4, 14, 15]), (15, [0, 2, 4, 14, 15, 85]), (16, [0, 2, 4, 14, 15, 16]), (17, [0, 2, 4, 14, 15, 16, 103]), (18, [0, 2, 4, 14, 15]), (19, [0, 2, 4, 14, 15]), (20, [0, 14, 17]), (21, [0, 14, 17, 110]), (22, [0, 14, 17]), (23, [0, 14, 17]), (24, [0, 1, 2, 3, 4, 18]), (25, [0, 1, 2, 3, 4, 18, 19]), (26, [0, 1, 2, 3, 4, 18, 19]), (27, [0, 1, 2, 3, 4, 18, 19, 140]), (28, [0, 1, 2, 3, 4, 18, 19, 20]), (29, [0, 1, 2, 3, 4, 18, 19, 20, 21]), (30, [0, 1, 2, 3, 4, 18, 19, 20]), (31, [0, 1, 2, 3, 4, 18, 19, 20, 21]), (32, [0, 1, 2, 3, 4, 18, 19, 20, 21, 22]), (33, [0, 1, 2, 3, 4, 18, 19, 20, 21, 22, 151]), (34, [0, 1, 2, 3, 4, 18, 19, 20, 21, 22, 23]), (35, [0, 1, 2, 3, 4, 18, 19, 20, 21, 22, 23, 171]), (36, [0, 1, 2, 3, 4, 18, 19, 20, 21, 22]), (37, [0, 1, 2, 3, 4, 18, 19, 20, 21, 22]), (38, [0, 1, 2, 3, 4, 18, 20, 24]), (39, [0, 1, 2, 3, 4, 18, 20, 24, 185]), (40, [0, 1, 3, 4, 18, 20, 24]), (41, [0, 1, 3, 4, 18, 20, 24, 199]), (42, [0, 3, 4, 18, 24]), (43, [0, 3, 4, 18, 24, 213]), (44, []), (999, []), (1000, [0, 1, 10]), (1001, [0, 1, 4, 10, 11]), (1002, []), (1003, [0, 10, 13]), (1004, [0, 2, 14]), (1005, [0, 2, 4, 14, 15]), (1006, []), (1007, [0, 14, 17]), (1008, [0, 1, 2, 3, 4, 18, 19, 20]), (1009, [0, 1, 2, 3, 4, 18, 19, 20, 21, 22])]
theorem fn35 {F : Fun} {own : FuncId → Bool} {ownR bp : Bool} {n : Nat} {args : List V} {h : Heap} {r : V} {h' : Heap} (hF : FSound Try.prog tab F) (hl : Nat.ble args.length 220 = true) (hh : evFn tab F own ownR lv35 bp n Try.f35 args h = some (r, h')) : FnAt Try.prog tab 35 args h r h' :=
  evFn_ok tabOk hF Try.func35 (by kernel_rfl) (by kernel_rfl) (by rw [← Nat.ble_eq]; exact hl) hh
def lv36 : List (Nat × List Nat) := [(0, [0]), (1, [2]), (999, [2])]
theorem fn36 {F : Fun} {own : FuncId → Bool} {ownR bp : Bool} {n : Nat} {args : List V} {h : Heap} {r : V} {h' : Heap} (hF : FSound Try.prog tab F) (hl : Nat.ble args.length 6 = true) (hh : evFn tab F own ownR lv36 bp n Try.f36 args h = some (r, h')) : FnAt Try.prog tab 36 args h r h' :=
  evFn_ok tabOk hF Try.func36 (by kernel_rfl) (by kernel_rfl) (by rw [← Nat.ble_eq]; exact hl) hh
def lv37 : List (Nat × List Nat) := [(0, [0, 2, 3, 4, 10]), (1, [0, 2, 4, 10, 11]), (2, [0, 2, 4, 10, 11, 20]), (3, [0, 2, 4, 10, 11, 23]), (4, [0, 2, 4, 10, 11]), (5, [0, 2, 4, 10, 11]), (6, [0, 2, 4, 10, 11]), (7, [0, 2, 4, 10, 11]), (8, []), (999, []), (1000, [0, 2, 4, 10]), (1001, [0, 2, 4, 10, 11])]
theorem fn37 {F : Fun} {own : FuncId → Bool} {ownR bp : Bool} {n : Nat} {args : List V} {h : Heap} {r : V} {h' : Heap} (hF : FSound Try.prog tab F) (hl : Nat.ble args.length 58 = true) (hh : evFn tab F own ownR lv37 bp n Try.f37 args h = some (r, h')) : FnAt Try.prog tab 37 args h r h' :=
  evFn_ok tabOk hF Try.func37 (by kernel_rfl) (by kernel_rfl) (by rw [← Nat.ble_eq]; exact hl) hh
def lv38 : List (Nat × List Nat) := [(0, [0, 1, 2, 3, 10]), (1, [0, 1, 2, 3, 10, 13]), (2, [0, 1, 2, 3, 10]), (3, [0, 1, 2, 3, 10]), (999, []), (1000, []), (1001, [0, 1, 2, 3, 10])]
theorem fn38 {F : Fun} {own : FuncId → Bool} {ownR bp : Bool} {n : Nat} {args : List V} {h : Heap} {r : V} {h' : Heap} (hF : FSound Try.prog tab F) (hl : Nat.ble args.length 38 = true) (hh : evFn tab F own ownR lv38 bp n Try.f38 args h = some (r, h')) : FnAt Try.prog tab 38 args h r h' :=
  evFn_ok tabOk hF Try.func38 (by kernel_rfl) (by kernel_rfl) (by rw [← Nat.ble_eq]; exact hl) hh
end Go.Proofs.Ytdcdccdhdingbaa
