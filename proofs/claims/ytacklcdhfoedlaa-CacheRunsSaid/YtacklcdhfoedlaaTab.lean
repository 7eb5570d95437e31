/- The seat's table of types, as the engine wants it, and what is live behind each region. Printed by gentab.py. -/
import Derived.Test.YtacklcdhfoedlaaEngD
import Derived.Test.YtacklcdhfoedlaaRows
import Derived.KernelRfl
namespace Go.Proofs.Ytacklcdhfoedlaa
open Go Go.Eng
set_option maxRecDepth 100000
def tab : Tab := [(1, ⟨.fn, 1, 8, [.no], [.bool false], [(0, .top)]⟩),
  (2, ⟨.int .i64, 1, 8, [.int .i64], [.int .i64 0], []⟩),
  (3, ⟨.int .i64, 1, 8, [.int .i64], [.int .i64 0], []⟩),
  (4, ⟨.bool, 1, 1, [.bool], [.bool false], []⟩),
  (5, ⟨.int .u8, 1, 1, [.int .u8], [.int .u8 0], []⟩),
  (6, ⟨.int .u8, 1, 1, [.int .u8], [.int .u8 0], []⟩),
  (7, ⟨.struct [(0, 2), (1, 3), (2, 4), (3, 6)], 4, 24, [.int .i64, .int .i64, .bool, .int .u8], [.int .i64 0, .int .i64 0, .bool false, .int .u8 0], []⟩),
  (8, ⟨.struct [(0, 2), (1, 3), (2, 4), (3, 6)], 4, 24, [.int .i64, .int .i64, .bool, .int .u8], [.int .i64 0, .int .i64 0, .bool false, .int .u8 0], []⟩),
  (9, ⟨.str, 1, 16, [.str], [.str ⟨#[]⟩], []⟩),
  (10, ⟨.str, 1, 16, [.str], [.str ⟨#[]⟩], []⟩),
  (11, ⟨.str, 1, 16, [.str], [.str ⟨#[]⟩], []⟩),
  (12, ⟨.int .u64, 1, 8, [.int .u64], [.int .u64 0], []⟩),
  (15, ⟨.ptr 60, 1, 8, [.no], [.bool false], [(0, .nilp)]⟩),
  (16, ⟨.ptr 63, 1, 8, [.no], [.bool false], [(0, .nilp)]⟩),
  (17, ⟨.ptr 72, 1, 8, [.no], [.bool false], [(0, .nilp)]⟩),
  (21, ⟨.int .i32, 1, 4, [.int .i32], [.int .i32 0], []⟩),
  (22, ⟨.fn, 1, 8, [.no], [.bool false], [(0, .top)]⟩),
  (23, ⟨.ptr 55, 1, 8, [.no], [.bool false], [(0, .nilp)]⟩),
  (24, ⟨.fn, 1, 8, [.no], [.bool false], [(0, .top)]⟩),
  (25, ⟨.struct [(0, 9), (1, 3)], 2, 24, [.str, .int .i64], [.str ⟨#[]⟩, .int .i64 0], []⟩),
  (26, ⟨.struct [(0, 9), (1, 3)], 2, 24, [.str, .int .i64], [.str ⟨#[]⟩, .int .i64 0], []⟩),
  (27, ⟨.int .u64, 1, 8, [.int .u64], [.int .u64 0], []⟩),
  (28, ⟨.fn, 1, 8, [.no], [.bool false], [(0, .top)]⟩),
  (29, ⟨.arr 16 5, 16, 16, [.int .u8, .int .u8, .int .u8, .int .u8, .int .u8, .int .u8, .int .u8, .int .u8, .int .u8, .int .u8, .int .u8, .int .u8, .int .u8, .int .u8, .int .u8, .int .u8], [.int .u8 0, .int .u8 0, .int .u8 0, .int .u8 0, .int .u8 0, .int .u8 0, .int .u8 0, .int .u8 0, .int .u8 0, .int .u8 0, .int .u8 0, .int .u8 0, .int .u8 0, .int .u8 0, .int .u8 0, .int .u8 0], []⟩),
  (30, ⟨.arr 16 5, 16, 16, [.int .u8, .int .u8, .int .u8, .int .u8, .int .u8, .int .u8, .int .u8, .int .u8, .int .u8, .int .u8, .int .u8, .int .u8, .int .u8, .int .u8, .int .u8, .int .u8], [.int .u8 0, .int .u8 0, .int .u8 0, .int .u8 0, .int .u8 0, .int .u8 0, .int .u8 0, .int .u8 0, .int .u8 0, .int .u8 0, .int .u8 0, .int .u8 0, .int .u8 0, .int .u8 0, .int .u8 0, .int .u8 0], []⟩),
  (31, ⟨.struct [(0, 9), (1, 3), (2, 3), (3, 30), (19, 9), (20, 9)], 21, 80, [.str, .int .i64, .int .i64, .int .u8, .int .u8, .int .u8, .int .u8, .int .u8, .int .u8, .int .u8, .int .u8, .int .u8, .int .u8, .int .u8, .int .u8, .int .u8, .int .u8, .int .u8, .int .u8, .str, .str], [.str ⟨#[]⟩, .int .i64 0, .int .i64 0, .int .u8 0, .int .u8 0, .int .u8 0, .int .u8 0, .int .u8 0, .int .u8 0, .int .u8 0, .int .u8 0, .int .u8 0, .int .u8 0, .int .u8 0, .int .u8 0, .int .u8 0, .int .u8 0, .int .u8 0, .int .u8 0, .str ⟨#[]⟩, .str ⟨#[]⟩], []⟩),
  (32, ⟨.struct [(0, 9), (1, 3), (2, 3), (3, 30), (19, 9), (20, 9)], 21, 80, [.str, .int .i64, .int .i64, .int .u8, .int .u8, .int .u8, .int .u8, .int .u8, .int .u8, .int .u8, .int .u8, .int .u8, .int .u8, .int .u8, .int .u8, .int .u8, .int .u8, .int .u8, .int .u8, .str, .str], [.str ⟨#[]⟩, .int .i64 0, .int .i64 0, .int .u8 0, .int .u8 0, .int .u8 0, .int .u8 0, .int .u8 0, .int .u8 0, .int .u8 0, .int .u8 0, .int .u8 0, .int .u8 0, .int .u8 0, .int .u8 0, .int .u8 0, .int .u8 0, .int .u8 0, .int .u8 0, .str ⟨#[]⟩, .str ⟨#[]⟩], []⟩),
  (33, ⟨.sl 32, 1, 24, [.sl 32], [.sl 32 []], []⟩),
  (35, ⟨.fn, 1, 8, [.no], [.bool false], [(0, .top)]⟩),
  (36, ⟨.fn, 1, 8, [.no], [.bool false], [(0, .top)]⟩),
  (37, ⟨.fn, 1, 8, [.no], [.bool false], [(0, .top)]⟩),
  (38, ⟨.fn, 1, 8, [.no], [.bool false], [(0, .top)]⟩),
  (39, ⟨.fn, 1, 8, [.no], [.bool false], [(0, .top)]⟩),
  (40, ⟨.sl 3, 1, 24, [.sl 3], [.sl 3 []], []⟩),
  (41, ⟨.sl 5, 1, 24, [.sl 5], [.sl 5 []], []⟩),
  (42, ⟨.fn, 1, 8, [.no], [.bool false], [(0, .top)]⟩),
  (43, ⟨.fn, 1, 8, [.no], [.bool false], [(0, .top)]⟩),
  (44, ⟨.fn, 1, 8, [.no], [.bool false], [(0, .top)]⟩),
  (45, ⟨.fn, 1, 8, [.no], [.bool false], [(0, .top)]⟩),
  (46, ⟨.sl 49, 1, 24, [.sl 49], [.sl 49 []], []⟩),
  (47, ⟨.sl 51, 1, 24, [.sl 51], [.sl 51 []], []⟩),
  (48, ⟨.struct [(0, 3), (1, 3), (2, 3), (3, 3)], 4, 32, [.int .i64, .int .i64, .int .i64, .int .i64], [.int .i64 0, .int .i64 0, .int .i64 0, .int .i64 0], []⟩),
  (49, ⟨.struct [(0, 3), (1, 3), (2, 3), (3, 3)], 4, 32, [.int .i64, .int .i64, .int .i64, .int .i64], [.int .i64 0, .int .i64 0, .int .i64 0, .int .i64 0], []⟩),
  (50, ⟨.struct [(0, 26), (2, 3), (3, 3), (4, 3)], 5, 48, [.str, .int .i64, .int .i64, .int .i64, .int .i64], [.str ⟨#[]⟩, .int .i64 0, .int .i64 0, .int .i64 0, .int .i64 0], []⟩),
  (51, ⟨.struct [(0, 26), (2, 3), (3, 3), (4, 3)], 5, 48, [.str, .int .i64, .int .i64, .int .i64, .int .i64], [.str ⟨#[]⟩, .int .i64 0, .int .i64 0, .int .i64 0, .int .i64 0], []⟩),
  (52, ⟨.fn, 1, 8, [.no], [.bool false], [(0, .top)]⟩),
  (53, ⟨.sl 57, 1, 24, [.sl 57], [.sl 57 []], []⟩),
  (54, ⟨.struct [(0, 3), (1, 53)], 2, 32, [.int .i64, .sl 57], [.int .i64 0, .sl 57 []], [(1, .nils 57)]⟩),
  (55, ⟨.struct [(0, 3), (1, 53)], 2, 32, [.int .i64, .sl 57], [.int .i64 0, .sl 57 []], [(1, .nils 57)]⟩),
  (56, ⟨.struct [(0, 26), (2, 3), (3, 33), (4, 3), (5, 3)], 6, 72, [.str, .int .i64, .int .i64, .sl 32, .int .i64, .int .i64], [.str ⟨#[]⟩, .int .i64 0, .int .i64 0, .sl 32 [], .int .i64 0, .int .i64 0], [(3, .nils 32)]⟩),
  (57, ⟨.struct [(0, 26), (2, 3), (3, 33), (4, 3), (5, 3)], 6, 72, [.str, .int .i64, .int .i64, .sl 32, .int .i64, .int .i64], [.str ⟨#[]⟩, .int .i64 0, .int .i64 0, .sl 32 [], .int .i64 0, .int .i64 0], [(3, .nils 32)]⟩),
  (58, ⟨.fn, 1, 8, [.no], [.bool false], [(0, .top)]⟩),
  (61, ⟨.arr 0 16, 0, 0, [], [], []⟩),
  (64, ⟨.int .u32, 1, 4, [.int .u32], [.int .u32 0], []⟩),
  (65, ⟨.int .u8, 1, 1, [.int .u8], [.int .u8 0], []⟩),
  (66, ⟨.int .u8, 1, 1, [.int .u8], [.int .u8 0], []⟩),
  (67, ⟨.fn, 1, 8, [.no], [.bool false], [(0, .top)]⟩),
  (68, ⟨.ptr 5, 1, 8, [.no], [.bool false], [(0, .nilp)]⟩),
  (69, ⟨.int .i32, 1, 4, [.int .i32], [.int .i32 0], []⟩),
  (70, ⟨.int .i32, 1, 4, [.int .i32], [.int .i32 0], []⟩)]
theorem tabOk : TabOk Try.prog tab := by
  refine ⟨by kernel_rfl, ?_⟩
  have h : tab.all (fun p => tiOk Try.prog tab p.1 p.2) = true := by kernel_rfl
  exact fun p hp => List.all_eq_true.1 h p hp
def lv3 : List (Nat × List Nat) := [(0, [0, 1, 2]), (1, [0, 1, 2, 17]), (2, [6]), (3, [0, 1, 2]), (4, [0, 1, 2, 7]), (5, [2, 7, 8, 9]), (6, [2, 7, 8, 9]), (7, [2, 7, 8, 9, 10]), (8, [7, 8, 9, 10]), (9, [7, 8, 9, 10, 12, 13]), (10, [7, 8, 9, 10, 12, 13, 14]), (11, [7, 10, 12, 13, 14, 65]), (12, [6]), (13, [6]), (999, [6])]
theorem fn3 {F : Fun} {own : FuncId → Bool} {ownR bp : Bool} {n : Nat} {args : List V} {h : Heap} {r : V} {h' : Heap} (hF : FSound Try.prog tab F) (hl : Nat.ble args.length 107 = true) (hh : evFn tab F own ownR lv3 bp n Try.f3 args h = some (r, h')) : FnAt Try.prog tab 3 args h r h' :=
  evFn_ok tabOk hF Try.func3 (by kernel_rfl) (by kernel_rfl) (by rw [← Nat.ble_eq]; exact hl) hh
def lv4 : List (Nat × List Nat) := [(0, [0, 1]), (1, [0, 1, 14]), (2, [4]), (3, [0, 1]), (4, [0, 1, 18]), (5, [4]), (6, [0, 1, 5]), (7, [0, 1, 5, 6]), (8, [0, 1, 5, 6]), (9, [0, 1, 5, 6, 27]), (10, [4]), (11, [1, 5, 6, 7]), (12, [1, 5, 6, 7, 8]), (13, [1, 5, 7, 8, 10]), (14, [1, 5, 7, 8, 10]), (15, [1, 5, 7, 8, 10, 12]), (16, [5, 8, 10, 12]), (17, [4]), (999, [4])]
theorem fn4 {F : Fun} {own : FuncId → Bool} {ownR bp : Bool} {n : Nat} {args : List V} {h : Heap} {r : V} {h' : Heap} (hF : FSound Try.prog tab F) (hl : Nat.ble args.length 80 = true) (hh : evFn tab F own ownR lv4 bp n Try.f4 args h = some (r, h')) : FnAt Try.prog tab 4 args h r h' :=
  evFn_ok tabOk hF Try.func4 (by kernel_rfl) (by kernel_rfl) (by rw [← Nat.ble_eq]; exact hl) hh
def lv5 : List (Nat × List Nat) := [(0, [0]), (1, [0, 14]), (2, [2]), (3, [0, 22]), (4, [2]), (5, [0, 3]), (6, [0, 3, 4]), (7, [0, 3, 4, 5]), (8, [0, 3, 4, 5, 26, 27, 28]), (9, [0, 3, 4, 5, 26, 27, 28, 29]), (10, [0, 3, 4, 5, 6, 7, 26, 27, 28]), (11, [0, 3, 4, 5, 6, 7, 26, 27, 28]), (12, [0, 3, 4, 5, 6, 26, 27, 28, 48]), (13, [0, 3, 4, 5, 26, 27, 28]), (14, [0, 3, 4, 5, 26, 27, 28]), (15, [0, 3, 4, 5]), (16, [0, 3, 4, 5, 56, 57]), (17, [0, 3, 4, 5, 56, 57, 58]), (18, [0, 3, 4, 5, 8, 56, 57]), (19, [0, 3, 4, 5, 8, 9, 56, 57]), (20, [0, 3, 4, 5, 56, 57, 73]), (21, [2]), (22, [0, 3, 4, 5, 56, 57]), (23, [0, 3, 11]), (24, [2]), (999, [2]), (1000, [0, 3, 4, 5]), (1001, [0, 3, 4, 5, 26, 27, 28]), (1002, [0, 3, 4]), (1003, [0, 3, 4, 5, 56, 57])]
theorem fn5 {F : Fun} {own : FuncId → Bool} {ownR bp : Bool} {n : Nat} {args : List V} {h : Heap} {r : V} {h' : Heap} (hF : FSound Try.prog tab F) (hl : Nat.ble args.length 91 = true) (hh : evFn tab F own ownR lv5 bp n Try.f5 args h = some (r, h')) : FnAt Try.prog tab 5 args h r h' :=
  evFn_ok tabOk hF Try.func5 (by kernel_rfl) (by kernel_rfl) (by rw [← Nat.ble_eq]; exact hl) hh
def lv6 : List (Nat × List Nat) := [(0, [0, 1]), (1, [0, 1, 19]), (2, [4]), (3, [0, 1, 22]), (4, [4]), (5, [0, 1, 5]), (6, [0, 1, 5, 6]), (7, [0, 1, 5, 6, 23, 24, 25]), (8, [0, 1, 5, 6, 23, 24, 25, 26]), (9, [0, 1, 5, 6, 7, 8, 23, 24, 25]), (10, [0, 1, 5, 6, 7, 8, 23, 24, 25]), (11, [0, 1, 5, 6, 8, 23, 24, 25]), (12, [0, 1, 5, 6, 23, 24, 25]), (13, [0, 1, 5, 6, 23, 24, 25]), (14, [0, 1, 5, 52]), (15, [4]), (16, [0, 1, 5]), (17, [0, 1, 5, 9]), (18, [0, 1, 5, 9, 10]), (19, [0, 1, 5, 9, 10]), (20, [0, 1, 5, 9, 10, 64, 65]), (21, [0, 1, 5, 9, 10, 64, 65, 66]), (22, [0, 1, 5, 9, 10, 11, 64, 65]), (23, [0, 1, 5, 9, 10, 64, 65]), (24, [0, 1, 5, 9, 10, 64, 65]), (25, [0, 1, 9, 10, 13]), (26, [0, 1, 9, 10, 13, 80, 81]), (27, [0, 1, 9, 10, 13, 80, 81, 82]), (28, [0, 1, 9, 10, 13, 14, 80, 81]), (29, [0, 1, 9, 10, 13, 80, 81]), (30, [0, 1, 9, 10, 13, 80, 81]), (31, [0, 1, 9, 10, 15, 16]), (32, [0, 1, 9, 10, 16, 105]), (33, [4]), (34, [0, 1, 9, 10, 16, 107, 108]), (35, [0, 1, 9, 10, 16, 107, 108, 109]), (36, [0, 1, 9, 10, 16, 17, 107, 108]), (37, [0, 1, 9, 10, 16, 107, 108, 132]), (38, [4]), (39, [0, 1, 9, 10, 16, 107, 108]), (40, [15]), (41, [4]), (999, [4]), (1000, [0, 1, 5, 6]), (1001, [0, 1, 5, 6, 23, 24, 25]), (1002, [0, 1, 9, 10]), (1003, [0, 1, 5, 9, 10, 64, 65]), (1004, [0, 1, 9, 10]), (1005, [0, 1, 9, 10, 13, 80, 81]), (1006, [1, 9, 10]), (1007, [0, 1, 9, 10, 16, 107, 108])]
theorem fn6 {F : Fun} {own : FuncId → Bool} {ownR bp : Bool} {n : Nat} {args : List V} {h : Heap} {r : V} {h' : Heap} (hF : FSound Try.prog tab F) (hl : Nat.ble args.length 144 = true) (hh : evFn tab F own ownR lv6 bp n Try.f6 args h = some (r, h')) : FnAt Try.prog tab 6 args h r h' :=
  evFn_ok tabOk hF Try.func6 (by kernel_rfl) (by kernel_rfl) (by rw [← Nat.ble_eq]; exact hl) hh
def lv7 : List (Nat × List Nat) := [(0, [0, 1]), (1, [0, 1, 26]), (2, [4]), (3, [0, 1, 29]), (4, [4]), (5, [0, 1]), (6, [0, 1, 5]), (7, [0, 1, 5, 6]), (8, [0, 1, 5, 6, 7]), (9, [0, 5, 6, 7, 34, 35, 36]), (10, [0, 5, 6, 7, 34, 35, 36, 37]), (11, [0, 5, 6, 7, 9, 34, 35, 36]), (12, [0, 5, 6, 7, 9, 34, 35, 36]), (13, [0, 5, 6, 7, 9, 10, 34, 35, 36]), (14, [0, 5, 6, 7, 9, 10, 11, 34, 35, 36]), (15, [0, 5, 6, 7, 9, 10, 11, 12, 34, 35, 36]), (16, [0, 5, 6, 7, 10, 11, 12, 34, 35, 36, 67]), (17, [0, 5, 6, 7, 10, 11, 12, 34, 35, 36]), (18, [0, 5, 6, 7, 10, 11, 12, 34, 35, 36, 86]), (19, [0, 5, 6, 7, 10, 11, 34, 35, 36]), (20, [0, 5, 6, 7, 10, 11, 13, 34, 35, 36]), (21, [0, 5, 6, 7, 10, 11, 13, 34, 35, 36, 89, 90, 91]), (22, [0, 5, 6, 7, 10, 11, 13, 34, 35, 36, 89, 90, 91, 92]), (23, [0, 5, 6, 7, 10, 11, 13, 15, 34, 35, 36, 89, 90, 91]), (24, [0, 5, 6, 7, 10, 11, 13, 15, 34, 35, 36, 89, 90, 91, 98]), (25, [0, 5, 6, 7, 10, 11, 13, 34, 35, 36, 89, 90, 91]), (26, [0, 5, 6, 7, 10, 11, 13, 34, 35, 36, 89, 90, 91]), (27, [0, 5, 6, 7, 10, 11, 13, 34, 35, 36, 107]), (28, [0, 5, 6, 7, 10, 11, 13, 16, 34, 35, 36]), (29, [0, 5, 6, 7, 10, 11, 13, 16, 34, 35, 36, 109, 110]), (30, [0, 5, 6, 7, 10, 11, 13, 16, 34, 35, 36, 109, 110, 111]), (31, [0, 5, 6, 7, 10, 11, 13, 16, 17, 34, 35, 36, 109, 110]), (32, [0, 5, 6, 7, 10, 11, 13, 16, 17, 34, 35, 36, 109, 110, 123]), (33, [0, 5, 6, 7, 10, 11, 13, 16, 34, 35, 36, 109, 110]), (34, [0, 5, 6, 7, 10, 11, 13, 16, 34, 35, 36, 109, 110]), (35, [0, 5, 6, 7, 10, 11, 13, 34, 35, 36]), (36, [0, 5, 6, 7, 34, 35, 36]), (37, [0, 5, 6, 7, 10, 11, 12, 34, 35, 36, 67, 145]), (38, [0, 5, 6, 7, 10, 11, 12, 34, 35, 36, 67, 147]), (39, [0, 5, 6, 7, 12, 34, 35, 36]), (40, [0, 5, 6, 7, 34, 35, 36]), (41, [0, 5, 6, 7, 10, 11, 12, 34, 35, 36, 154]), (42, [0, 5, 6, 7, 34, 35, 36]), (43, [0, 5, 6, 7, 34, 35, 36]), (44, [0, 5, 6, 7, 34, 35, 36, 168]), (45, [4]), (46, [0, 5, 6, 7, 34, 35, 36, 169]), (47, [0, 5, 6, 7, 34, 35, 36, 169, 170]), (48, [0, 5, 6, 7, 18, 34, 35, 36, 169]), (49, [0, 5, 6, 7, 19, 34, 35, 36, 169]), (50, [0, 5, 6, 7, 19, 20, 21, 34, 35, 36, 169]), (51, [0, 5, 6, 7, 19, 20, 21, 22, 34, 35, 36, 169]), (52, [0, 5, 6, 7, 19, 20, 21, 22, 34, 35, 36, 169, 189, 190, 191]), (53, [0, 5, 6, 7, 19, 20, 21, 22, 34, 35, 36, 169, 189, 190, 191, 192]), (54, [0, 5, 6, 7, 19, 20, 21, 22, 24, 34, 35, 36, 169, 189, 190, 191]), (55, [0, 5, 6, 7, 19, 20, 21, 22, 24, 34, 35, 36, 169, 189, 190, 191, 204]), (56, [0, 5, 6, 7, 19, 20, 21, 22, 24, 34, 35, 36, 169, 189, 190, 191]), (57, [0, 5, 6, 7, 19, 20, 21, 22, 34, 35, 36, 169, 189, 190, 191, 230]), (58, [4]), (59, [0, 5, 6, 7, 19, 20, 21, 22, 34, 35, 36, 169, 189, 190, 191]), (60, [0, 5, 6, 7, 34, 35, 36, 169, 243]), (61, [4]), (62, [0, 5, 6, 7, 34, 35, 36, 169]), (63, [0, 5, 6, 7, 34, 35, 36]), (64, [4]), (999, [4]), (1000, []), (1001, [0, 5, 6, 7, 34, 35, 36]), (1002, [0, 5, 6, 7, 34, 35, 36]), (1003, [0, 5, 6, 7, 10, 11, 13, 34, 35, 36]), (1004, [0, 5, 6, 7, 10, 11, 13, 34, 35, 36, 89, 90, 91]), (1005, [0, 5, 6, 7, 10, 11, 13, 16, 34, 35, 36]), (1006, [0, 5, 6, 7, 10, 11, 13, 16, 34, 35, 36, 109, 110]), (1007, [0, 5, 6, 7, 34, 35, 36]), (1008, [0, 5, 6, 7, 34, 35, 36, 169]), (1009, [0, 5, 6, 7, 20, 21, 22, 34, 35, 36, 169]), (1010, [0, 5, 6, 7, 19, 20, 21, 22, 34, 35, 36, 169, 189, 190, 191])]
theorem fn7 {F : Fun} {own : FuncId → Bool} {ownR bp : Bool} {n : Nat} {args : List V} {h : Heap} {r : V} {h' : Heap} (hF : FSound Try.prog tab F) (hl : Nat.ble args.length 246 = true) (hh : evFn tab F own ownR lv7 bp n Try.f7 args h = some (r, h')) : FnAt Try.prog tab 7 args h r h' :=
  evFn_ok tabOk hF Try.func7 (by kernel_rfl) (by kernel_rfl) (by rw [← Nat.ble_eq]; exact hl) hh
def lv8 : List (Nat × List Nat) := [(0, [0, 1]), (1, [0, 1, 11]), (2, [4]), (3, [0, 1]), (4, [0, 1, 5]), (5, [0, 1, 5, 16, 17]), (6, [0, 1, 5, 16, 17, 18]), (7, [0, 1, 5, 6, 16, 17]), (8, [0, 1, 5, 16, 17]), (9, [0, 1, 5, 16, 17]), (10, [0, 1, 5, 7]), (11, [0, 1, 5, 7]), (12, [0, 1, 5, 7]), (13, [0, 1, 5, 7]), (14, [0, 1, 5, 7, 8, 9]), (15, [4]), (999, [4]), (1000, [0, 1, 5]), (1001, [0, 1, 5, 16, 17])]
theorem fn8 {F : Fun} {own : FuncId → Bool} {ownR bp : Bool} {n : Nat} {args : List V} {h : Heap} {r : V} {h' : Heap} (hF : FSound Try.prog tab F) (hl : Nat.ble args.length 65 = true) (hh : evFn tab F own ownR lv8 bp n Try.f8 args h = some (r, h')) : FnAt Try.prog tab 8 args h r h' :=
  evFn_ok tabOk hF Try.func8 (by kernel_rfl) (by kernel_rfl) (by rw [← Nat.ble_eq]; exact hl) hh
def lv9 : List (Nat × List Nat) := [(0, []), (1, [1]), (2, [1, 2]), (3, [1, 2]), (4, [1, 2, 3, 4]), (5, [3, 4, 5]), (6, [0]), (999, [0])]
theorem fn9 {F : Fun} {own : FuncId → Bool} {ownR bp : Bool} {n : Nat} {args : List V} {h : Heap} {r : V} {h' : Heap} (hF : FSound Try.prog tab F) (hl : Nat.ble args.length 44 = true) (hh : evFn tab F own ownR lv9 bp n Try.f9 args h = some (r, h')) : FnAt Try.prog tab 9 args h r h' :=
  evFn_ok tabOk hF Try.func9 (by kernel_rfl) (by kernel_rfl) (by rw [← Nat.ble_eq]; exact hl) hh
def lv10 : List (Nat × List Nat) := [(0, [0]), (1, [2]), (999, [2])]
theorem fn10 {F : Fun} {own : FuncId → Bool} {ownR bp : Bool} {n : Nat} {args : List V} {h : Heap} {r : V} {h' : Heap} (hF : FSound Try.prog tab F) (hl : Nat.ble args.length 8 = true) (hh : evFn tab F own ownR lv10 bp n Try.f10 args h = some (r, h')) : FnAt Try.prog tab 10 args h r h' :=
  evFn_ok tabOk hF Try.func10 (by kernel_rfl) (by kernel_rfl) (by rw [← Nat.ble_eq]; exact hl) hh
def lv11 : List (Nat × List Nat) := [(0, [0, 1, 3, 4, 5, 8]), (1, [0, 1, 3, 4, 5, 8, 30]), (2, [0, 1, 3, 4, 5, 8]), (3, [0, 1, 3, 4, 5, 8, 12]), (4, [0, 1, 3, 4, 5, 8, 12, 37, 38, 39]), (5, [0, 1, 3, 4, 5, 8, 12, 37, 38, 39, 40]), (6, [0, 1, 3, 4, 5, 8, 12, 14, 37, 38, 39]), (7, [0, 1, 3, 4, 5, 8, 12, 14, 37, 38, 39, 46]), (8, [0, 1, 3, 4, 5, 8, 12, 37, 38, 39]), (9, [0, 1, 3, 4, 5, 8, 12, 37, 38, 39]), (10, [0, 1, 3, 4, 5, 8, 12, 58]), (11, [0, 1, 3, 4, 5, 8, 12, 15]), (12, [0, 1, 3, 4, 5, 8, 12, 15, 59, 60, 61]), (13, [0, 1, 3, 4, 5, 8, 12, 15, 59, 60, 61, 62]), (14, [0, 1, 3, 4, 5, 8, 12, 15, 16, 17, 59, 60, 61]), (15, [0, 1, 3, 4, 5, 8, 12, 15, 16, 59, 60, 61, 73]), (16, [0, 1, 3, 4, 5, 8, 12, 15, 59, 60, 61]), (17, [0, 1, 3, 4, 5, 8, 12, 15, 59, 60, 61]), (18, [0, 1, 3, 4, 5, 8, 12]), (19, []), (999, []), (1000, [0, 1, 3, 4, 5, 8, 12]), (1001, [0, 1, 3, 4, 5, 8, 12, 37, 38, 39]), (1002, [0, 1, 3, 4, 5, 8, 12, 15]), (1003, [0, 1, 3, 4, 5, 8, 12, 15, 59, 60, 61])]
theorem fn11 {F : Fun} {own : FuncId → Bool} {ownR bp : Bool} {n : Nat} {args : List V} {h : Heap} {r : V} {h' : Heap} (hF : FSound Try.prog tab F) (hl : Nat.ble args.length 101 = true) (hh : evFn tab F own ownR lv11 bp n Try.f11 args h = some (r, h')) : FnAt Try.prog tab 11 args h r h' :=
  evFn_ok tabOk hF Try.func11 (by kernel_rfl) (by kernel_rfl) (by rw [← Nat.ble_eq]; exact hl) hh
def lv12 : List (Nat × List Nat) := [(0, [0, 1, 5]), (1, [0, 1, 5, 13]), (2, [6, 7]), (3, [1, 5, 17, 18, 19]), (4, [1, 5, 17, 18, 19, 20]), (5, [1, 5, 9, 17, 18, 19]), (6, [1, 5, 9, 17, 18, 19, 32]), (7, [1, 9, 10]), (8, [1, 9, 10, 37, 38]), (9, [1, 9, 10, 37, 38, 39]), (10, [1, 9, 10, 11, 37, 38]), (11, [1, 9, 10, 37, 38]), (12, [1, 9, 10, 37, 38]), (13, [6, 7]), (14, [1, 5, 17, 18, 19]), (15, [6, 7]), (999, [6, 7]), (1000, []), (1001, [1, 5, 17, 18, 19]), (1002, [9, 10]), (1003, [1, 9, 10, 37, 38])]
theorem fn12 {F : Fun} {own : FuncId → Bool} {ownR bp : Bool} {n : Nat} {args : List V} {h : Heap} {r : V} {h' : Heap} (hF : FSound Try.prog tab F) (hl : Nat.ble args.length 61 = true) (hh : evFn tab F own ownR lv12 bp n Try.f12 args h = some (r, h')) : FnAt Try.prog tab 12 args h r h' :=
  evFn_ok tabOk hF Try.func12 (by kernel_rfl) (by kernel_rfl) (by rw [← Nat.ble_eq]; exact hl) hh
def lv13 : List (Nat × List Nat) := [(0, [0]), (1, [0, 4]), (2, [2]), (3, [2]), (999, [2])]
theorem fn13 {F : Fun} {own : FuncId → Bool} {ownR bp : Bool} {n : Nat} {args : List V} {h : Heap} {r : V} {h' : Heap} (hF : FSound Try.prog tab F) (hl : Nat.ble args.length 10 = true) (hh : evFn tab F own ownR lv13 bp n Try.f13 args h = some (r, h')) : FnAt Try.prog tab 13 args h r h' :=
  evFn_ok tabOk hF Try.func13 (by kernel_rfl) (by kernel_rfl) (by rw [← Nat.ble_eq]; exact hl) hh
def lv14 : List (Nat × List Nat) := [(0, [0, 1, 8]), (1, [0, 1, 4]), (2, [0, 1, 4, 12, 13, 14]), (3, [0, 1, 4, 12, 13, 14, 15]), (4, [0, 1, 4, 6, 12, 13, 14]), (5, [0, 1, 4, 6, 12, 13, 14, 21]), (6, [0, 1, 4, 12, 13, 14]), (7, [0, 1, 4, 12, 13, 14]), (8, []), (999, []), (1000, [0, 4]), (1001, [0, 1, 4, 12, 13, 14])]
theorem fn14 {F : Fun} {own : FuncId → Bool} {ownR bp : Bool} {n : Nat} {args : List V} {h : Heap} {r : V} {h' : Heap} (hF : FSound Try.prog tab F) (hl : Nat.ble args.length 31 = true) (hh : evFn tab F own ownR lv14 bp n Try.f14 args h = some (r, h')) : FnAt Try.prog tab 14 args h r h' :=
  evFn_ok tabOk hF Try.func14 (by kernel_rfl) (by kernel_rfl) (by rw [← Nat.ble_eq]; exact hl) hh
def lv15 : List (Nat × List Nat) := [(0, [0, 2]), (1, [2]), (999, [2])]
theorem fn15 {F : Fun} {own : FuncId → Bool} {ownR bp : Bool} {n : Nat} {args : List V} {h : Heap} {r : V} {h' : Heap} (hF : FSound Try.prog tab F) (hl : Nat.ble args.length 9 = true) (hh : evFn tab F own ownR lv15 bp n Try.f15 args h = some (r, h')) : FnAt Try.prog tab 15 args h r h' :=
  evFn_ok tabOk hF Try.func15 (by kernel_rfl) (by kernel_rfl) (by rw [← Nat.ble_eq]; exact hl) hh
def lv16 : List (Nat × List Nat) := [(0, [0]), (1, [0, 3]), (2, [3, 6, 7, 8]), (3, [3, 6, 7, 8, 9]), (4, [3, 5, 6, 7, 8]), (5, [3, 6, 7, 8]), (6, [3, 6, 7, 8]), (7, [2]), (999, [2]), (1000, [3]), (1001, [3, 6, 7, 8])]
theorem fn16 {F : Fun} {own : FuncId → Bool} {ownR bp : Bool} {n : Nat} {args : List V} {h : Heap} {r : V} {h' : Heap} (hF : FSound Try.prog tab F) (hl : Nat.ble args.length 18 = true) (hh : evFn tab F own ownR lv16 bp n Try.f16 args h = some (r, h')) : FnAt Try.prog tab 16 args h r h' :=
  evFn_ok tabOk hF Try.func16 (by kernel_rfl) (by kernel_rfl) (by rw [← Nat.ble_eq]; exact hl) hh
def lv17 : List (Nat × List Nat) := [(0, [0, 1, 2]), (1, [0, 1, 2, 5, 6, 7]), (2, [0, 1, 2, 5, 6, 7, 8]), (3, [0, 1, 2, 4, 5, 6, 7]), (4, [0, 1, 2, 4, 5, 6, 7, 14]), (5, [0, 1, 2, 5, 6, 7]), (6, [0, 1, 2, 5, 6, 7]), (7, []), (999, []), (1000, [0, 2]), (1001, [0, 1, 2, 5, 6, 7])]
theorem fn17 {F : Fun} {own : FuncId → Bool} {ownR bp : Bool} {n : Nat} {args : List V} {h : Heap} {r : V} {h' : Heap} (hF : FSound Try.prog tab F) (hl : Nat.ble args.length 21 = true) (hh : evFn tab F own ownR lv17 bp n Try.f17 args h = some (r, h')) : FnAt Try.prog tab 17 args h r h' :=
  evFn_ok tabOk hF Try.func17 (by kernel_rfl) (by kernel_rfl) (by rw [← Nat.ble_eq]; exact hl) hh
def lv18 : List (Nat × List Nat) := [(0, [0, 3]), (1, []), (999, [])]
theorem fn18 {F : Fun} {own : FuncId → Bool} {ownR bp : Bool} {n : Nat} {args : List V} {h : Heap} {r : V} {h' : Heap} (hF : FSound Try.prog tab F) (hl : Nat.ble args.length 7 = true) (hh : evFn tab F own ownR lv18 bp n Try.f18 args h = some (r, h')) : FnAt Try.prog tab 18 args h r h' :=
  evFn_ok tabOk hF Try.func18 (by kernel_rfl) (by kernel_rfl) (by rw [← Nat.ble_eq]; exact hl) hh
end Go.Proofs.Ytacklcdhfoedlaa
