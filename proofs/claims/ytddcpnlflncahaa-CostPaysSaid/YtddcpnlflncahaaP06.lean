import Derived.Test.YtddcpnlflncahaaRows
import Derived.Test.YtddcpnlflncahaaP05
set_option linter.all false
namespace Go.Proofs.Ytddcpnlflncahaa
open Go Go.Pv
def tabL : List (Nat × TI) := [
  (3, ⟨true, false, 1, (some [.int .i64 0]), (some [0]), .int .i64⟩),
  (38, ⟨true, true, 19, (some [.sl 0 [] true, .sl 0 [] true, .sl 0 [] true, .sl 0 [] true, .sl 0 [] true, .sl 0 [] true, .sl 0 [] true, .int .i64 0, .int .i64 0, .int .i64 0, .bool false, .int .i64 0, .int .i64 0, .int .i64 0, .int .i64 0, .int .u64 0, .sl 0 [] true, .int .i64 0, .int .i64 0]), none, .struct [⟨0, 1, false⟩, ⟨1, 1, false⟩, ⟨2, 1, false⟩, ⟨3, 1, false⟩, ⟨4, 1, false⟩, ⟨5, 1, false⟩, ⟨6, 1, false⟩, ⟨7, 1, false⟩, ⟨8, 1, false⟩, ⟨9, 1, false⟩, ⟨10, 1, false⟩, ⟨11, 1, false⟩, ⟨12, 1, false⟩, ⟨13, 1, false⟩, ⟨14, 1, false⟩, ⟨15, 1, false⟩, ⟨16, 1, false⟩, ⟨17, 1, false⟩, ⟨18, 1, false⟩]⟩),
  (23, ⟨true, true, 6, (some [.int .i64 0, .int .i64 0, .int .i64 0, .int .i64 0, .int .i64 0, .int .i64 0]), (some [0, 0, 0, 0, 0, 0]), .arr 6 1 false⟩),
  (32, ⟨true, false, 1, (some [.sl 0 [] true]), none, .slice 1 8 (some [.int .i64 0])⟩),
  (26, ⟨true, true, 7, (some [.int .i64 0, .int .i64 0, .int .i64 0, .int .i64 0, .int .i64 0, .int .i64 0, .int .i64 0]), (some [0, 0, 0, 0, 0, 0, 0]), .struct [⟨0, 1, false⟩, ⟨1, 1, false⟩, ⟨2, 5, true⟩]⟩),
  (30, ⟨true, false, 1, (some [.sl 0 [] true]), none, .slice 14 152 (some [.int .i64 0, .int .i64 0, .int .i64 0, .int .i64 0, .int .i64 0, .int .i64 0, .int .i64 0, .int .i64 0, .int .i64 0, .bool false, .bool false, .sl 0 [] true, .sl 0 [] true, .sl 0 [] true])⟩),
  (84, ⟨true, true, 72, (some [.int .i64 0, .int .i64 0, .int .i64 0, .int .i64 0, .int .i64 0, .int .i64 0, .int .i64 0, .int .i64 0, .str ⟨#[]⟩, .int .i64 0, .int .i64 0, .int .i64 0, .int .i64 0, .int .i64 0, .int .i64 0, .int .i64 0, .int .i64 0, .sl 0 [] true, .int .i64 0, .int .i64 0, .int .i64 0, .int .i64 0, .int .i64 0, .int .i64 0, .int .i64 0, .bool false, .bool false, .int .i64 0, .bool false, .int .i64 0, .int .i64 0, .int .i64 0, .int .i64 0, .int .i64 0, .int .i64 0, .int .i64 0, .int .i64 0, .int .i64 0, .str ⟨#[]⟩, .int .i64 0, .int .i64 0, .int .i64 0, .int .i64 0, .int .i64 0, .int .i64 0, .int .i64 0, .int .i64 0, .bool false, .sl 0 [] true, .sl 0 [] true, .int .i64 0, .int .i64 0, .int .i64 0, .int .i64 0, .int .i64 0, .int .i64 0, .int .i64 0, .int .i64 0, .int .i64 0, .str ⟨#[]⟩, .int .i64 0, .int .i64 0, .int .i64 0, .int .i64 0, .int .i64 0, .int .i64 0, .int .i64 0, .int .i64 0, .int .i64 0, .int .i64 0, .int .i64 0, .int .i64 0]), none, .struct [⟨0, 1, false⟩, ⟨1, 16, true⟩, ⟨17, 1, false⟩, ⟨18, 10, true⟩, ⟨28, 1, false⟩, ⟨29, 18, true⟩, ⟨47, 1, false⟩, ⟨48, 1, false⟩, ⟨49, 1, false⟩, ⟨50, 22, true⟩]⟩),
  (41, ⟨true, true, 14, (some [.int .i64 0, .int .i64 0, .int .i64 0, .int .i64 0, .int .i64 0, .int .i64 0, .int .i64 0, .int .i64 0, .int .i64 0, .bool false, .bool false, .sl 0 [] true, .sl 0 [] true, .sl 0 [] true]), none, .struct [⟨0, 1, false⟩, ⟨1, 1, false⟩, ⟨2, 1, false⟩, ⟨3, 6, true⟩, ⟨9, 1, false⟩, ⟨10, 1, false⟩, ⟨11, 1, false⟩, ⟨12, 1, false⟩, ⟨13, 1, false⟩]⟩),
  (55, ⟨true, true, 7, (some [.int .i64 0, .int .i64 0, .int .i64 0, .int .i64 0, .int .i64 0, .int .i64 0, .sl 0 [] true]), none, .struct [⟨0, 1, false⟩, ⟨1, 1, false⟩, ⟨2, 1, false⟩, ⟨3, 1, false⟩, ⟨4, 1, false⟩, ⟨5, 1, false⟩, ⟨6, 1, false⟩]⟩),
  (89, ⟨true, true, 94, (some [.int .i64 0, .int .i64 0, .int .i64 0, .int .i64 0, .int .i64 0, .bool false, .int .i64 0, .int .i64 0, .int .i64 0, .int .i64 0, .int .i64 0, .int .i64 0, .int .i64 0, .int .i64 0, .str ⟨#[]⟩, .int .i64 0, .int .i64 0, .int .i64 0, .int .i64 0, .int .i64 0, .int .i64 0, .int .i64 0, .int .i64 0, .sl 0 [] true, .int .i64 0, .int .i64 0, .int .i64 0, .int .i64 0, .int .i64 0, .int .i64 0, .int .i64 0, .bool false, .bool false, .int .i64 0, .bool false, .int .i64 0, .int .i64 0, .int .i64 0, .int .i64 0, .int .i64 0, .int .i64 0, .int .i64 0, .int .i64 0, .int .i64 0, .str ⟨#[]⟩, .int .i64 0, .int .i64 0, .int .i64 0, .int .i64 0, .int .i64 0, .int .i64 0, .int .i64 0, .int .i64 0, .bool false, .sl 0 [] true, .sl 0 [] true, .int .i64 0, .int .i64 0, .int .i64 0, .int .i64 0, .int .i64 0, .int .i64 0, .int .i64 0, .int .i64 0, .int .i64 0, .str ⟨#[]⟩, .int .i64 0, .int .i64 0, .int .i64 0, .int .i64 0, .int .i64 0, .int .i64 0, .int .i64 0, .int .i64 0, .int .i64 0, .int .i64 0, .int .i64 0, .int .i64 0, .sl 0 [] true, .int .i64 0, .int .i64 0, .int .i64 0, .int .i64 0, .int .i64 0, .int .i64 0, .int .i64 0, .int .i64 0, .int .i64 0, .int .i64 0, .bool false, .bool false, .int .i64 0, .int .i64 0, .int .i64 0]), none, .struct [⟨0, 1, false⟩, ⟨1, 1, false⟩, ⟨2, 1, false⟩, ⟨3, 1, false⟩, ⟨4, 1, false⟩, ⟨5, 1, false⟩, ⟨6, 72, true⟩, ⟨78, 1, false⟩, ⟨79, 15, true⟩]⟩),
  (33, ⟨true, false, 1, (some [.sl 0 [] true]), none, .slice 94 824 (some [.int .i64 0, .int .i64 0, .int .i64 0, .int .i64 0, .int .i64 0, .bool false, .int .i64 0, .int .i64 0, .int .i64 0, .int .i64 0, .int .i64 0, .int .i64 0, .int .i64 0, .int .i64 0, .str ⟨#[]⟩, .int .i64 0, .int .i64 0, .int .i64 0, .int .i64 0, .int .i64 0, .int .i64 0, .int .i64 0, .int .i64 0, .sl 0 [] true, .int .i64 0, .int .i64 0, .int .i64 0, .int .i64 0, .int .i64 0, .int .i64 0, .int .i64 0, .bool false, .bool false, .int .i64 0, .bool false, .int .i64 0, .int .i64 0, .int .i64 0, .int .i64 0, .int .i64 0, .int .i64 0, .int .i64 0, .int .i64 0, .int .i64 0, .str ⟨#[]⟩, .int .i64 0, .int .i64 0, .int .i64 0, .int .i64 0, .int .i64 0, .int .i64 0, .int .i64 0, .int .i64 0, .bool false, .sl 0 [] true, .sl 0 [] true, .int .i64 0, .int .i64 0, .int .i64 0, .int .i64 0, .int .i64 0, .int .i64 0, .int .i64 0, .int .i64 0, .int .i64 0, .str ⟨#[]⟩, .int .i64 0, .int .i64 0, .int .i64 0, .int .i64 0, .int .i64 0, .int .i64 0, .int .i64 0, .int .i64 0, .int .i64 0, .int .i64 0, .int .i64 0, .int .i64 0, .sl 0 [] true, .int .i64 0, .int .i64 0, .int .i64 0, .int .i64 0, .int .i64 0, .int .i64 0, .int .i64 0, .int .i64 0, .int .i64 0, .int .i64 0, .bool false, .bool false, .int .i64 0, .int .i64 0, .int .i64 0])⟩),
  (35, ⟨true, false, 1, (some [.sl 0 [] true]), none, .slice 6 80 (some [.int .i64 0, .int .i64 0, .int .i64 0, .int .i64 0, .sl 0 [] true, .sl 0 [] true])⟩),
  (74, ⟨true, false, 1, (some [.sl 0 [] true]), none, .slice 20 176 (some [.int .i64 0, .int .i64 0, .int .i64 0, .str ⟨#[]⟩, .int .i64 0, .int .i64 0, .int .i64 0, .int .i64 0, .int .i64 0, .int .i64 0, .int .i64 0, .str ⟨#[]⟩, .int .i64 0, .int .i64 0, .int .i64 0, .int .i64 0, .int .i64 0, .int .i64 0, .int .i64 0, .int .i64 0])⟩),
  (4, ⟨true, false, 1, (some [.bool false]), (some [1]), .oth⟩),
  (34, ⟨true, false, 1, (some [.sl 0 [] true]), none, .slice 89 768 (some [.int .i64 0, .int .i64 0, .int .i64 0, .int .i64 0, .int .i64 0, .int .i64 0, .int .i64 0, .int .i64 0, .int .i64 0, .int .i64 0, .str ⟨#[]⟩, .int .i64 0, .int .i64 0, .int .i64 0, .int .i64 0, .int .i64 0, .int .i64 0, .int .i64 0, .int .i64 0, .sl 0 [] true, .int .i64 0, .int .i64 0, .int .i64 0, .int .i64 0, .int .i64 0, .int .i64 0, .int .i64 0, .bool false, .bool false, .int .i64 0, .bool false, .int .i64 0, .int .i64 0, .int .i64 0, .int .i64 0, .int .i64 0, .int .i64 0, .int .i64 0, .int .i64 0, .int .i64 0, .str ⟨#[]⟩, .int .i64 0, .int .i64 0, .int .i64 0, .int .i64 0, .int .i64 0, .int .i64 0, .int .i64 0, .int .i64 0, .bool false, .sl 0 [] true, .sl 0 [] true, .int .i64 0, .int .i64 0, .int .i64 0, .int .i64 0, .int .i64 0, .int .i64 0, .int .i64 0, .int .i64 0, .int .i64 0, .str ⟨#[]⟩, .int .i64 0, .int .i64 0, .int .i64 0, .int .i64 0, .int .i64 0, .int .i64 0, .int .i64 0, .int .i64 0, .int .i64 0, .int .i64 0, .int .i64 0, .int .i64 0, .int .i64 0, .int .i64 0, .int .i64 0, .int .i64 0, .int .i64 0, .int .i64 0, .int .i64 0, .int .i64 0, .int .i64 0, .int .i64 0, .bool false, .bool false, .int .i64 0, .int .i64 0, .int .i64 0])⟩),
  (123, ⟨true, true, 64, (some [.int .i64 0, .int .i64 0, .int .i64 0, .int .i64 0, .int .i64 0, .int .i64 0, .int .i64 0, .int .i64 0, .int .i64 0, .int .i64 0, .str ⟨#[]⟩, .int .i64 0, .int .i64 0, .int .i64 0, .int .i64 0, .int .i64 0, .int .i64 0, .int .i64 0, .int .i64 0, .int .i64 0, .int .i64 0, .int .i64 0, .int .i64 0, .int .i64 0, .int .i64 0, .int .i64 0, .int .i64 0, .int .i64 0, .int .i64 0, .str ⟨#[]⟩, .int .i64 0, .int .i64 0, .int .i64 0, .int .i64 0, .int .i64 0, .int .i64 0, .int .i64 0, .int .i64 0, .int .i64 0, .int .i64 0, .str ⟨#[]⟩, .int .i64 0, .int .i64 0, .int .i64 0, .int .i64 0, .int .i64 0, .int .i64 0, .int .i64 0, .str ⟨#[]⟩, .int .i64 0, .int .i64 0, .int .i64 0, .int .i64 0, .int .i64 0, .int .i64 0, .int .i64 0, .int .i64 0, .int .i64 0, .int .i64 0, .int .i64 0, .int .i64 0, .int .i64 0, .int .i64 0, .sl 0 [] true]), none, .struct [⟨0, 1, false⟩, ⟨1, 18, true⟩, ⟨19, 19, true⟩, ⟨38, 1, false⟩, ⟨39, 1, false⟩, ⟨40, 1, false⟩, ⟨41, 16, true⟩, ⟨57, 6, true⟩, ⟨63, 1, false⟩]⟩),
  (53, ⟨true, false, 1, (some [.sl 0 [] true]), none, .slice 3 24 (some [.int .i64 0, .int .i64 0, .int .i64 0])⟩),
  (80, ⟨true, false, 1, (some [.sl 0 [] true]), none, .slice 64 560 (some [.int .i64 0, .int .i64 0, .int .i64 0, .int .i64 0, .int .i64 0, .int .i64 0, .int .i64 0, .int .i64 0, .int .i64 0, .int .i64 0, .str ⟨#[]⟩, .int .i64 0, .int .i64 0, .int .i64 0, .int .i64 0, .int .i64 0, .int .i64 0, .int .i64 0, .int .i64 0, .int .i64 0, .int .i64 0, .int .i64 0, .int .i64 0, .int .i64 0, .int .i64 0, .int .i64 0, .int .i64 0, .int .i64 0, .int .i64 0, .str ⟨#[]⟩, .int .i64 0, .int .i64 0, .int .i64 0, .int .i64 0, .int .i64 0, .int .i64 0, .int .i64 0, .int .i64 0, .int .i64 0, .int .i64 0, .str ⟨#[]⟩, .int .i64 0, .int .i64 0, .int .i64 0, .int .i64 0, .int .i64 0, .int .i64 0, .int .i64 0, .str ⟨#[]⟩, .int .i64 0, .int .i64 0, .int .i64 0, .int .i64 0, .int .i64 0, .int .i64 0, .int .i64 0, .int .i64 0, .int .i64 0, .int .i64 0, .int .i64 0, .int .i64 0, .int .i64 0, .int .i64 0, .sl 0 [] true])⟩),
  (99, ⟨true, true, 6, (some [.int .i64 0, .int .i64 0, .int .i64 0, .int .i64 0, .sl 0 [] true, .sl 0 [] true]), none, .struct [⟨0, 1, false⟩, ⟨1, 1, false⟩, ⟨2, 1, false⟩, ⟨3, 1, false⟩, ⟨4, 1, false⟩, ⟨5, 1, false⟩]⟩),
  (31, ⟨true, false, 1, (some [.sl 0 [] true]), none, .slice 19 128 (some [.int .i64 0, .int .i64 0, .int .i64 0, .int .i64 0, .int .i64 0, .bool false, .bool false, .bool false, .bool false, .int .i64 0, .int .i64 0, .int .i64 0, .int .i64 0, .int .i64 0, .int .i64 0, .int .i64 0, .bool false, .int .i64 0, .int .i64 0])⟩),
  (85, ⟨true, false, 1, (some [.sl 0 [] true]), none, .slice 2 16 (some [.int .i64 0, .int .i64 0])⟩),
  (79, ⟨true, false, 1, (some [.sl 0 [] true]), none, .slice 18 144 (some [.bool false, .bool false, .int .i64 0, .int .i64 0, .int .i64 0, .int .i64 0, .int .i64 0, .int .i64 0, .int .i64 0, .str ⟨#[]⟩, .int .i64 0, .int .i64 0, .int .i64 0, .int .i64 0, .int .i64 0, .int .i64 0, .int .i64 0, .int .i64 0])⟩),
  (60, ⟨true, true, 11, (some [.sl 0 [] true, .int .i64 0, .int .i64 0, .int .i64 0, .int .i64 0, .int .i64 0, .int .i64 0, .int .i64 0, .sl 0 [] true, .bool false, .bool false]), none, .struct [⟨0, 1, false⟩, ⟨1, 1, false⟩, ⟨2, 7, true⟩, ⟨9, 1, false⟩, ⟨10, 1, false⟩]⟩),
  (46, ⟨true, false, 1, (some [.sl 0 [] true]), none, .slice 1 24 (some [.sl 0 [] true])⟩),
  (24, ⟨true, true, 5, (some [.int .i64 0, .int .i64 0, .int .i64 0, .int .i64 0, .int .i64 0]), (some [0, 0, 0, 0, 0]), .arr 5 1 false⟩),
  (96, ⟨true, true, 89, (some [.int .i64 0, .int .i64 0, .int .i64 0, .int .i64 0, .int .i64 0, .int .i64 0, .int .i64 0, .int .i64 0, .int .i64 0, .int .i64 0, .str ⟨#[]⟩, .int .i64 0, .int .i64 0, .int .i64 0, .int .i64 0, .int .i64 0, .int .i64 0, .int .i64 0, .int .i64 0, .sl 0 [] true, .int .i64 0, .int .i64 0, .int .i64 0, .int .i64 0, .int .i64 0, .int .i64 0, .int .i64 0, .bool false, .bool false, .int .i64 0, .bool false, .int .i64 0, .int .i64 0, .int .i64 0, .int .i64 0, .int .i64 0, .int .i64 0, .int .i64 0, .int .i64 0, .int .i64 0, .str ⟨#[]⟩, .int .i64 0, .int .i64 0, .int .i64 0, .int .i64 0, .int .i64 0, .int .i64 0, .int .i64 0, .int .i64 0, .bool false, .sl 0 [] true, .sl 0 [] true, .int .i64 0, .int .i64 0, .int .i64 0, .int .i64 0, .int .i64 0, .int .i64 0, .int .i64 0, .int .i64 0, .int .i64 0, .str ⟨#[]⟩, .int .i64 0, .int .i64 0, .int .i64 0, .int .i64 0, .int .i64 0, .int .i64 0, .int .i64 0, .int .i64 0, .int .i64 0, .int .i64 0, .int .i64 0, .int .i64 0, .int .i64 0, .int .i64 0, .int .i64 0, .int .i64 0, .int .i64 0, .int .i64 0, .int .i64 0, .int .i64 0, .int .i64 0, .int .i64 0, .bool false, .bool false, .int .i64 0, .int .i64 0, .int .i64 0]), none, .struct [⟨0, 1, false⟩, ⟨1, 1, false⟩, ⟨2, 72, true⟩, ⟨74, 15, true⟩]⟩),
  (102, ⟨true, true, 20, (some [.int .i64 0, .int .i64 0, .int .i64 0, .str ⟨#[]⟩, .int .i64 0, .int .i64 0, .int .i64 0, .int .i64 0, .int .i64 0, .int .i64 0, .int .i64 0, .str ⟨#[]⟩, .int .i64 0, .int .i64 0, .int .i64 0, .int .i64 0, .int .i64 0, .int .i64 0, .int .i64 0, .int .i64 0]), (some [0, 0, 0, 2, 0, 0, 0, 0, 0, 0, 0, 2, 0, 0, 0, 0, 0, 0, 0, 0]), .struct [⟨0, 1, false⟩, ⟨1, 1, false⟩, ⟨2, 1, false⟩, ⟨3, 1, false⟩, ⟨4, 16, true⟩]⟩),
  (87, ⟨true, true, 15, (some [.int .i64 0, .int .i64 0, .int .i64 0, .int .i64 0, .int .i64 0, .int .i64 0, .int .i64 0, .int .i64 0, .int .i64 0, .int .i64 0, .bool false, .bool false, .int .i64 0, .int .i64 0, .int .i64 0]), (some [0, 0, 0, 0, 0, 0, 0, 0, 0, 0, 1, 1, 0, 0, 0]), .struct [⟨0, 1, false⟩, ⟨1, 1, false⟩, ⟨2, 1, false⟩, ⟨3, 1, false⟩, ⟨4, 1, false⟩, ⟨5, 1, false⟩, ⟨6, 1, false⟩, ⟨7, 1, false⟩, ⟨8, 1, false⟩, ⟨9, 1, false⟩, ⟨10, 1, false⟩, ⟨11, 1, false⟩, ⟨12, 3, true⟩]⟩),
  (73, ⟨true, true, 16, (some [.int .i64 0, .int .i64 0, .int .i64 0, .int .i64 0, .int .i64 0, .int .i64 0, .int .i64 0, .str ⟨#[]⟩, .int .i64 0, .int .i64 0, .int .i64 0, .int .i64 0, .int .i64 0, .int .i64 0, .int .i64 0, .int .i64 0]), (some [0, 0, 0, 0, 0, 0, 0, 2, 0, 0, 0, 0, 0, 0, 0, 0]), .struct [⟨0, 1, false⟩, ⟨1, 1, false⟩, ⟨2, 1, false⟩, ⟨3, 1, false⟩, ⟨4, 1, false⟩, ⟨5, 1, false⟩, ⟨6, 1, false⟩, ⟨7, 1, false⟩, ⟨8, 1, false⟩, ⟨9, 1, false⟩, ⟨10, 2, true⟩, ⟨12, 2, true⟩, ⟨14, 2, true⟩]⟩),
  (82, ⟨true, true, 22, (some [.int .i64 0, .int .i64 0, .int .i64 0, .int .i64 0, .int .i64 0, .int .i64 0, .int .i64 0, .int .i64 0, .int .i64 0, .str ⟨#[]⟩, .int .i64 0, .int .i64 0, .int .i64 0, .int .i64 0, .int .i64 0, .int .i64 0, .int .i64 0, .int .i64 0, .int .i64 0, .int .i64 0, .int .i64 0, .int .i64 0]), (some [0, 0, 0, 0, 0, 0, 0, 0, 0, 2, 0, 0, 0, 0, 0, 0, 0, 0, 0, 0, 0, 0]), .struct [⟨0, 1, false⟩, ⟨1, 1, false⟩, ⟨2, 16, true⟩, ⟨18, 1, false⟩, ⟨19, 1, false⟩, ⟨20, 1, false⟩, ⟨21, 1, false⟩]⟩),
  (68, ⟨true, true, 19, (some [.int .i64 0, .int .i64 0, .int .i64 0, .int .i64 0, .int .i64 0, .bool false, .bool false, .bool false, .bool false, .int .i64 0, .int .i64 0, .int .i64 0, .int .i64 0, .int .i64 0, .int .i64 0, .int .i64 0, .bool false, .int .i64 0, .int .i64 0]), (some [0, 0, 0, 0, 0, 1, 1, 1, 1, 0, 0, 0, 0, 0, 0, 0, 1, 0, 0]), .struct [⟨0, 1, false⟩, ⟨1, 1, false⟩, ⟨2, 1, false⟩, ⟨3, 1, false⟩, ⟨4, 1, false⟩, ⟨5, 1, false⟩, ⟨6, 1, false⟩, ⟨7, 1, false⟩, ⟨8, 1, false⟩, ⟨9, 1, false⟩, ⟨10, 3, true⟩, ⟨13, 1, false⟩, ⟨14, 1, false⟩, ⟨15, 1, false⟩, ⟨16, 1, false⟩, ⟨17, 1, false⟩, ⟨18, 1, false⟩]⟩),
  (36, ⟨true, false, 1, (some [.int .u64 0]), (some [0]), .int .u64⟩),
  (76, ⟨true, true, 10, (some [.int .i64 0, .int .i64 0, .int .i64 0, .int .i64 0, .int .i64 0, .int .i64 0, .int .i64 0, .bool false, .bool false, .int .i64 0]), (some [0, 0, 0, 0, 0, 0, 0, 1, 1, 0]), .struct [⟨0, 7, true⟩, ⟨7, 1, false⟩, ⟨8, 1, false⟩, ⟨9, 1, false⟩]⟩),
  (119, ⟨true, true, 18, (some [.int .i64 0, .int .i64 0, .int .i64 0, .int .i64 0, .int .i64 0, .int .i64 0, .int .i64 0, .int .i64 0, .int .i64 0, .str ⟨#[]⟩, .int .i64 0, .int .i64 0, .int .i64 0, .int .i64 0, .int .i64 0, .int .i64 0, .int .i64 0, .int .i64 0]), (some [0, 0, 0, 0, 0, 0, 0, 0, 0, 2, 0, 0, 0, 0, 0, 0, 0, 0]), .struct [⟨0, 1, false⟩, ⟨1, 1, false⟩, ⟨2, 16, true⟩]⟩),
  (9, ⟨true, false, 1, (some [.str ⟨#[]⟩]), (some [2]), .str⟩),
  (116, ⟨true, true, 18, (some [.bool false, .bool false, .int .i64 0, .int .i64 0, .int .i64 0, .int .i64 0, .int .i64 0, .int .i64 0, .int .i64 0, .str ⟨#[]⟩, .int .i64 0, .int .i64 0, .int .i64 0, .int .i64 0, .int .i64 0, .int .i64 0, .int .i64 0, .int .i64 0]), (some [1, 1, 0, 0, 0, 0, 0, 0, 0, 2, 0, 0, 0, 0, 0, 0, 0, 0]), .struct [⟨0, 1, false⟩, ⟨1, 1, false⟩, ⟨2, 16, true⟩]⟩),
  (121, ⟨true, true, 19, (some [.int .i64 0, .int .i64 0, .int .i64 0, .int .i64 0, .int .i64 0, .int .i64 0, .int .i64 0, .int .i64 0, .int .i64 0, .int .i64 0, .str ⟨#[]⟩, .int .i64 0, .int .i64 0, .int .i64 0, .int .i64 0, .int .i64 0, .int .i64 0, .int .i64 0, .int .i64 0]), (some [0, 0, 0, 0, 0, 0, 0, 0, 0, 0, 2, 0, 0, 0, 0, 0, 0, 0, 0]), .struct [⟨0, 1, false⟩, ⟨1, 1, false⟩, ⟨2, 1, false⟩, ⟨3, 16, true⟩]⟩),
  (78, ⟨true, true, 18, (some [.int .i64 0, .int .i64 0, .int .i64 0, .int .i64 0, .int .i64 0, .int .i64 0, .int .i64 0, .int .i64 0, .int .i64 0, .str ⟨#[]⟩, .int .i64 0, .int .i64 0, .int .i64 0, .int .i64 0, .int .i64 0, .int .i64 0, .int .i64 0, .int .i64 0]), (some [0, 0, 0, 0, 0, 0, 0, 0, 0, 2, 0, 0, 0, 0, 0, 0, 0, 0]), .struct [⟨0, 1, false⟩, ⟨1, 1, false⟩, ⟨2, 16, true⟩]⟩),
  (93, ⟨true, true, 2, (some [.int .i64 0, .int .i64 0]), (some [0, 0]), .struct [⟨0, 1, false⟩, ⟨1, 1, false⟩]⟩),
  (106, ⟨true, true, 3, (some [.int .i64 0, .int .i64 0, .int .i64 0]), (some [0, 0, 0]), .struct [⟨0, 1, false⟩, ⟨1, 1, false⟩, ⟨2, 1, false⟩]⟩),
  (56, ⟨true, false, 1, (some [.int .i64 0]), (some [0]), .int .i64⟩),
  (44, ⟨true, false, 1, (some [.nilp]), none, .ptr⟩)]
def tabF (t : TypeId) : TI := lkT tabL t
def glF (_ : Nat) : Option (List PV) := none
theorem tabLOK : madeT Try.prog tabL = infosT tabL := by kernel_rfl
def dclL : List (Nat × Nat) := [(9, 2), (10, 1)]
def tabx (pas : Nat) (cut : List Nat) (own : List (List (Nat × Bool))) : Tab := ⟨tabF, glF, pas, cut, 0, own, dclL⟩
theorem tabxOK (pas : Nat) (cut : List Nat) (own : List (List (Nat × Bool))) : TabOK Try.prog (tabx pas cut own) := tabOK_of (gl := glF) (pas := pas) (cut := cut) (nar := 0) (own := own) (dcl := dclL) tabL tabLOK
def tab : Tab := ⟨tabF, glF, 0, [], 0, [], dclL⟩
theorem tabOK : TabOK Try.prog tab := tabxOK 0 [] []
def tabc (cut : List Nat) : Tab := ⟨tabF, glF, 0, cut, 0, [], dclL⟩
theorem tabcOK (cut : List Nat) : TabOK Try.prog (tabc cut) := tabxOK 0 cut []
theorem wf : PWf Try.prog := wf_of (by kernel_rfl) (by kernel_rfl)
end Go.Proofs.Ytddcpnlflncahaa
namespace Go.Proofs.Ytddcpnlflncahaa
open Go Go.Pv
set_option maxRecDepth 100000
set_option maxHeartbeats 2000000
structure GOption where
  kind : Int
  a : Int
  b : Int
def eGOption (M : EncM) (x : GOption) : List PV := [.si .i64 x.kind, .si .i64 x.a, .si .i64 x.b]
def zGOption : GOption := GOption.mk 0 0 0
structure GChoice where
  kind : Int
  player : Int
  source : Int
  least : Int
  most : Int
  n : Int
  options : List GOption
def eGChoice (M : EncM) (x : GChoice) : List PV := [.si .i64 x.kind, .si .i64 x.player, .si .i64 x.source, .si .i64 x.least, .si .i64 x.most, .si .i64 x.n, .sl 3 (M.m GOption (eGOption M) x.options) false]
def zGChoice : GChoice := GChoice.mk 0 0 0 0 0 0 ([])
structure GAskAsker where
  answers : List (List Int)
  used : Int
  pending : GChoice
  waits : Bool
  bad : Bool
def eGAskAsker (M : EncM) (x : GAskAsker) : List PV := [.sl 1 (M.m (List Int) (eL M 1 (eI .i64)) x.answers) false, .si .i64 x.used, .si .i64 x.pending.kind, .si .i64 x.pending.player, .si .i64 x.pending.source, .si .i64 x.pending.least, .si .i64 x.pending.most, .si .i64 x.pending.n, .sl 3 (M.m GOption (eGOption M) x.pending.options) false, .sb x.waits, .sb x.bad]
def zGAskAsker : GAskAsker := GAskAsker.mk ([]) 0 zGChoice false false
structure GCost where
  generic : Int
  x : Int
  color : Arr5 Int
def eGCost (M : EncM) (x : GCost) : List PV := [.si .i64 x.generic, .si .i64 x.x, .si .i64 x.color.a0, .si .i64 x.color.a1, .si .i64 x.color.a2, .si .i64 x.color.a3, .si .i64 x.color.a4]
def zGCost : GCost := GCost.mk 0 0 zArr5I
structure GPlayer where
  life : Int
  venom : Int
  lands : Int
  pool : Arr6 Int
  failed : Bool
  lost : Bool
  library : List Int
  hand : List Int
  graveyard : List Int
def eGPlayer (M : EncM) (x : GPlayer) : List PV := [.si .i64 x.life, .si .i64 x.venom, .si .i64 x.lands, .si .i64 x.pool.a0, .si .i64 x.pool.a1, .si .i64 x.pool.a2, .si .i64 x.pool.a3, .si .i64 x.pool.a4, .si .i64 x.pool.a5, .sb x.failed, .sb x.lost, .sl 1 (M.m Int (eI .i64) x.library) false, .sl 1 (M.m Int (eI .i64) x.hand) false, .sl 1 (M.m Int (eI .i64) x.graveyard) false]
def zGPlayer : GPlayer := GPlayer.mk 0 0 0 zArr6I false false ([]) ([]) ([])
structure GObject where
  id : Int
  card : Int
  owner : Int
  control : Int
  zone : Int
  token : Bool
  tapped : Bool
  sick : Bool
  deadly : Bool
  damage : Int
  counters : Arr3 Int
  stamp : Int
  copy : Int
  attack : Int
  blocked : Bool
  blocks : Int
  shield : Int
def eGObject (M : EncM) (x : GObject) : List PV := [.si .i64 x.id, .si .i64 x.card, .si .i64 x.owner, .si .i64 x.control, .si .i64 x.zone, .sb x.token, .sb x.tapped, .sb x.sick, .sb x.deadly, .si .i64 x.damage, .si .i64 x.counters.a0, .si .i64 x.counters.a1, .si .i64 x.counters.a2, .si .i64 x.stamp, .si .i64 x.copy, .si .i64 x.attack, .sb x.blocked, .si .i64 x.blocks, .si .i64 x.shield]
def zGObject : GObject := GObject.mk 0 0 0 0 0 false false false false 0 zArr3I 0 0 0 false 0 0
structure GBound where
  kind : Int
  n : Int
def eGBound (M : EncM) (x : GBound) : List PV := [.si .i64 x.kind, .si .i64 x.n]
def zGBound : GBound := GBound.mk 0 0
structure GFilter where
  zone : Int
  who : Int
  self : Int
  types : Int
  notTypes : Int
  colors : Int
  notColors : Int
  sub : ByteArray
  keys : Int
  tap : Int
  power : GBound
  tough : GBound
  value : GBound
def eGFilter (M : EncM) (x : GFilter) : List PV := [.si .i64 x.zone, .si .i64 x.who, .si .i64 x.self, .si .i64 x.types, .si .i64 x.notTypes, .si .i64 x.colors, .si .i64 x.notColors, .str x.sub, .si .i64 x.keys, .si .i64 x.tap, .si .i64 x.power.kind, .si .i64 x.power.n, .si .i64 x.tough.kind, .si .i64 x.tough.n, .si .i64 x.value.kind, .si .i64 x.value.n]
def zGFilter : GFilter := GFilter.mk 0 0 0 0 0 0 0 (bs []) 0 0 zGBound zGBound zGBound
structure GMod where
  kind : Int
  n : Int
  m : Int
  sub : ByteArray
  filter : GFilter
def eGMod (M : EncM) (x : GMod) : List PV := [.si .i64 x.kind, .si .i64 x.n, .si .i64 x.m, .str x.sub, .si .i64 x.filter.zone, .si .i64 x.filter.who, .si .i64 x.filter.self, .si .i64 x.filter.types, .si .i64 x.filter.notTypes, .si .i64 x.filter.colors, .si .i64 x.filter.notColors, .str x.filter.sub, .si .i64 x.filter.keys, .si .i64 x.filter.tap, .si .i64 x.filter.power.kind, .si .i64 x.filter.power.n, .si .i64 x.filter.tough.kind, .si .i64 x.filter.tough.n, .si .i64 x.filter.value.kind, .si .i64 x.filter.value.n]
def zGMod : GMod := GMod.mk 0 0 0 (bs []) zGFilter
structure GPrice where
  mana : GCost
  tap : Bool
  sacrifice : Bool
  life : Int
def eGPrice (M : EncM) (x : GPrice) : List PV := [.si .i64 x.mana.generic, .si .i64 x.mana.x, .si .i64 x.mana.color.a0, .si .i64 x.mana.color.a1, .si .i64 x.mana.color.a2, .si .i64 x.mana.color.a3, .si .i64 x.mana.color.a4, .sb x.tap, .sb x.sacrifice, .si .i64 x.life]
def zGPrice : GPrice := GPrice.mk zGCost false false 0
structure GTrigger where
  when : Int
  who : Int
  filter : GFilter
def eGTrigger (M : EncM) (x : GTrigger) : List PV := [.si .i64 x.when, .si .i64 x.who, .si .i64 x.filter.zone, .si .i64 x.filter.who, .si .i64 x.filter.self, .si .i64 x.filter.types, .si .i64 x.filter.notTypes, .si .i64 x.filter.colors, .si .i64 x.filter.notColors, .str x.filter.sub, .si .i64 x.filter.keys, .si .i64 x.filter.tap, .si .i64 x.filter.power.kind, .si .i64 x.filter.power.n, .si .i64 x.filter.tough.kind, .si .i64 x.filter.tough.n, .si .i64 x.filter.value.kind, .si .i64 x.filter.value.n]
def zGTrigger : GTrigger := GTrigger.mk 0 0 zGFilter
structure GSpec where
  player : Bool
  object : Bool
  filter : GFilter
def eGSpec (M : EncM) (x : GSpec) : List PV := [.sb x.player, .sb x.object, .si .i64 x.filter.zone, .si .i64 x.filter.who, .si .i64 x.filter.self, .si .i64 x.filter.types, .si .i64 x.filter.notTypes, .si .i64 x.filter.colors, .si .i64 x.filter.notColors, .str x.filter.sub, .si .i64 x.filter.keys, .si .i64 x.filter.tap, .si .i64 x.filter.power.kind, .si .i64 x.filter.power.n, .si .i64 x.filter.tough.kind, .si .i64 x.filter.tough.n, .si .i64 x.filter.value.kind, .si .i64 x.filter.value.n]
def zGSpec : GSpec := GSpec.mk false false zGFilter
structure GRef where
  kind : Int
  n : Int
  filter : GFilter
def eGRef (M : EncM) (x : GRef) : List PV := [.si .i64 x.kind, .si .i64 x.n, .si .i64 x.filter.zone, .si .i64 x.filter.who, .si .i64 x.filter.self, .si .i64 x.filter.types, .si .i64 x.filter.notTypes, .si .i64 x.filter.colors, .si .i64 x.filter.notColors, .str x.filter.sub, .si .i64 x.filter.keys, .si .i64 x.filter.tap, .si .i64 x.filter.power.kind, .si .i64 x.filter.power.n, .si .i64 x.filter.tough.kind, .si .i64 x.filter.tough.n, .si .i64 x.filter.value.kind, .si .i64 x.filter.value.n]
def zGRef : GRef := GRef.mk 0 0 zGFilter
structure GAmount where
  kind : Int
  n : Int
  counter : Int
  filter : GFilter
def eGAmount (M : EncM) (x : GAmount) : List PV := [.si .i64 x.kind, .si .i64 x.n, .si .i64 x.counter, .si .i64 x.filter.zone, .si .i64 x.filter.who, .si .i64 x.filter.self, .si .i64 x.filter.types, .si .i64 x.filter.notTypes, .si .i64 x.filter.colors, .si .i64 x.filter.notColors, .str x.filter.sub, .si .i64 x.filter.keys, .si .i64 x.filter.tap, .si .i64 x.filter.power.kind, .si .i64 x.filter.power.n, .si .i64 x.filter.tough.kind, .si .i64 x.filter.tough.n, .si .i64 x.filter.value.kind, .si .i64 x.filter.value.n]
def zGAmount : GAmount := GAmount.mk 0 0 0 zGFilter
structure GEffect where
  op : Int
  ref : GRef
  amount : GAmount
  counter : Int
  zone : Int
  card : ByteArray
  filter : GFilter
  pool : Arr6 Int
  mods : List GMod
def eGEffect (M : EncM) (x : GEffect) : List PV := [.si .i64 x.op, .si .i64 x.ref.kind, .si .i64 x.ref.n, .si .i64 x.ref.filter.zone, .si .i64 x.ref.filter.who, .si .i64 x.ref.filter.self, .si .i64 x.ref.filter.types, .si .i64 x.ref.filter.notTypes, .si .i64 x.ref.filter.colors, .si .i64 x.ref.filter.notColors, .str x.ref.filter.sub, .si .i64 x.ref.filter.keys, .si .i64 x.ref.filter.tap, .si .i64 x.ref.filter.power.kind, .si .i64 x.ref.filter.power.n, .si .i64 x.ref.filter.tough.kind, .si .i64 x.ref.filter.tough.n, .si .i64 x.ref.filter.value.kind, .si .i64 x.ref.filter.value.n, .si .i64 x.amount.kind, .si .i64 x.amount.n, .si .i64 x.amount.counter, .si .i64 x.amount.filter.zone, .si .i64 x.amount.filter.who, .si .i64 x.amount.filter.self, .si .i64 x.amount.filter.types, .si .i64 x.amount.filter.notTypes, .si .i64 x.amount.filter.colors, .si .i64 x.amount.filter.notColors, .str x.amount.filter.sub, .si .i64 x.amount.filter.keys, .si .i64 x.amount.filter.tap, .si .i64 x.amount.filter.power.kind, .si .i64 x.amount.filter.power.n, .si .i64 x.amount.filter.tough.kind, .si .i64 x.amount.filter.tough.n, .si .i64 x.amount.filter.value.kind, .si .i64 x.amount.filter.value.n, .si .i64 x.counter, .si .i64 x.zone, .str x.card, .si .i64 x.filter.zone, .si .i64 x.filter.who, .si .i64 x.filter.self, .si .i64 x.filter.types, .si .i64 x.filter.notTypes, .si .i64 x.filter.colors, .si .i64 x.filter.notColors, .str x.filter.sub, .si .i64 x.filter.keys, .si .i64 x.filter.tap, .si .i64 x.filter.power.kind, .si .i64 x.filter.power.n, .si .i64 x.filter.tough.kind, .si .i64 x.filter.tough.n, .si .i64 x.filter.value.kind, .si .i64 x.filter.value.n, .si .i64 x.pool.a0, .si .i64 x.pool.a1, .si .i64 x.pool.a2, .si .i64 x.pool.a3, .si .i64 x.pool.a4, .si .i64 x.pool.a5, .sl 20 (M.m GMod (eGMod M) x.mods) false]
def zGEffect : GEffect := GEffect.mk 0 zGRef zGAmount 0 0 (bs []) zGFilter zArr6I ([])
structure GReplace where
  on : Int
  who : Int
  filter : GFilter
  doF : Int
  n : Int
  zone : Int
  counter : Int
def eGReplace (M : EncM) (x : GReplace) : List PV := [.si .i64 x.on, .si .i64 x.who, .si .i64 x.filter.zone, .si .i64 x.filter.who, .si .i64 x.filter.self, .si .i64 x.filter.types, .si .i64 x.filter.notTypes, .si .i64 x.filter.colors, .si .i64 x.filter.notColors, .str x.filter.sub, .si .i64 x.filter.keys, .si .i64 x.filter.tap, .si .i64 x.filter.power.kind, .si .i64 x.filter.power.n, .si .i64 x.filter.tough.kind, .si .i64 x.filter.tough.n, .si .i64 x.filter.value.kind, .si .i64 x.filter.value.n, .si .i64 x.doF, .si .i64 x.n, .si .i64 x.zone, .si .i64 x.counter]
def zGReplace : GReplace := GReplace.mk 0 0 zGFilter 0 0 0 0
structure GAbility where
  kind : Int
  filter : GFilter
  mods : List GMod
  price : GPrice
  slow : Bool
  trigger : GTrigger
  may : Bool
  specs : List GSpec
  effects : List GEffect
  replace : GReplace
def eGAbility (M : EncM) (x : GAbility) : List PV := [.si .i64 x.kind, .si .i64 x.filter.zone, .si .i64 x.filter.who, .si .i64 x.filter.self, .si .i64 x.filter.types, .si .i64 x.filter.notTypes, .si .i64 x.filter.colors, .si .i64 x.filter.notColors, .str x.filter.sub, .si .i64 x.filter.keys, .si .i64 x.filter.tap, .si .i64 x.filter.power.kind, .si .i64 x.filter.power.n, .si .i64 x.filter.tough.kind, .si .i64 x.filter.tough.n, .si .i64 x.filter.value.kind, .si .i64 x.filter.value.n, .sl 20 (M.m GMod (eGMod M) x.mods) false, .si .i64 x.price.mana.generic, .si .i64 x.price.mana.x, .si .i64 x.price.mana.color.a0, .si .i64 x.price.mana.color.a1, .si .i64 x.price.mana.color.a2, .si .i64 x.price.mana.color.a3, .si .i64 x.price.mana.color.a4, .sb x.price.tap, .sb x.price.sacrifice, .si .i64 x.price.life, .sb x.slow, .si .i64 x.trigger.when, .si .i64 x.trigger.who, .si .i64 x.trigger.filter.zone, .si .i64 x.trigger.filter.who, .si .i64 x.trigger.filter.self, .si .i64 x.trigger.filter.types, .si .i64 x.trigger.filter.notTypes, .si .i64 x.trigger.filter.colors, .si .i64 x.trigger.filter.notColors, .str x.trigger.filter.sub, .si .i64 x.trigger.filter.keys, .si .i64 x.trigger.filter.tap, .si .i64 x.trigger.filter.power.kind, .si .i64 x.trigger.filter.power.n, .si .i64 x.trigger.filter.tough.kind, .si .i64 x.trigger.filter.tough.n, .si .i64 x.trigger.filter.value.kind, .si .i64 x.trigger.filter.value.n, .sb x.may, .sl 18 (M.m GSpec (eGSpec M) x.specs) false, .sl 64 (M.m GEffect (eGEffect M) x.effects) false, .si .i64 x.replace.on, .si .i64 x.replace.who, .si .i64 x.replace.filter.zone, .si .i64 x.replace.filter.who, .si .i64 x.replace.filter.self, .si .i64 x.replace.filter.types, .si .i64 x.replace.filter.notTypes, .si .i64 x.replace.filter.colors, .si .i64 x.replace.filter.notColors, .str x.replace.filter.sub, .si .i64 x.replace.filter.keys, .si .i64 x.replace.filter.tap, .si .i64 x.replace.filter.power.kind, .si .i64 x.replace.filter.power.n, .si .i64 x.replace.filter.tough.kind, .si .i64 x.replace.filter.tough.n, .si .i64 x.replace.filter.value.kind, .si .i64 x.replace.filter.value.n, .si .i64 x.replace.doF, .si .i64 x.replace.n, .si .i64 x.replace.zone, .si .i64 x.replace.counter]
def zGAbility : GAbility := GAbility.mk 0 zGFilter ([]) zGPrice false zGTrigger false ([]) ([]) zGReplace
structure GTarget where
  object : Int
  player : Int
def eGTarget (M : EncM) (x : GTarget) : List PV := [.si .i64 x.object, .si .i64 x.player]
def zGTarget : GTarget := GTarget.mk 0 0
structure GEvent where
  kind : Int
  source : Int
  object : Int
  player : Int
  amount : Int
  fromF : Int
  to : Int
  cause : Int
  counter : Int
  card : Int
  combat : Bool
  tapped : Bool
  extra : Arr3 Int
def eGEvent (M : EncM) (x : GEvent) : List PV := [.si .i64 x.kind, .si .i64 x.source, .si .i64 x.object, .si .i64 x.player, .si .i64 x.amount, .si .i64 x.fromF, .si .i64 x.to, .si .i64 x.cause, .si .i64 x.counter, .si .i64 x.card, .sb x.combat, .sb x.tapped, .si .i64 x.extra.a0, .si .i64 x.extra.a1, .si .i64 x.extra.a2]
def zGEvent : GEvent := GEvent.mk 0 0 0 0 0 0 0 0 0 0 false false zArr3I
structure GItem where
  id : Int
  kind : Int
  source : Int
  control : Int
  x : Int
  copy : Bool
  ability : GAbility
  targets : List GTarget
  event : GEvent
def eGItem (M : EncM) (x : GItem) : List PV := [.si .i64 x.id, .si .i64 x.kind, .si .i64 x.source, .si .i64 x.control, .si .i64 x.x, .sb x.copy, .si .i64 x.ability.kind, .si .i64 x.ability.filter.zone, .si .i64 x.ability.filter.who, .si .i64 x.ability.filter.self, .si .i64 x.ability.filter.types, .si .i64 x.ability.filter.notTypes, .si .i64 x.ability.filter.colors, .si .i64 x.ability.filter.notColors, .str x.ability.filter.sub, .si .i64 x.ability.filter.keys, .si .i64 x.ability.filter.tap, .si .i64 x.ability.filter.power.kind, .si .i64 x.ability.filter.power.n, .si .i64 x.ability.filter.tough.kind, .si .i64 x.ability.filter.tough.n, .si .i64 x.ability.filter.value.kind, .si .i64 x.ability.filter.value.n, .sl 20 (M.m GMod (eGMod M) x.ability.mods) false, .si .i64 x.ability.price.mana.generic, .si .i64 x.ability.price.mana.x, .si .i64 x.ability.price.mana.color.a0, .si .i64 x.ability.price.mana.color.a1, .si .i64 x.ability.price.mana.color.a2, .si .i64 x.ability.price.mana.color.a3, .si .i64 x.ability.price.mana.color.a4, .sb x.ability.price.tap, .sb x.ability.price.sacrifice, .si .i64 x.ability.price.life, .sb x.ability.slow, .si .i64 x.ability.trigger.when, .si .i64 x.ability.trigger.who, .si .i64 x.ability.trigger.filter.zone, .si .i64 x.ability.trigger.filter.who, .si .i64 x.ability.trigger.filter.self, .si .i64 x.ability.trigger.filter.types, .si .i64 x.ability.trigger.filter.notTypes, .si .i64 x.ability.trigger.filter.colors, .si .i64 x.ability.trigger.filter.notColors, .str x.ability.trigger.filter.sub, .si .i64 x.ability.trigger.filter.keys, .si .i64 x.ability.trigger.filter.tap, .si .i64 x.ability.trigger.filter.power.kind, .si .i64 x.ability.trigger.filter.power.n, .si .i64 x.ability.trigger.filter.tough.kind, .si .i64 x.ability.trigger.filter.tough.n, .si .i64 x.ability.trigger.filter.value.kind, .si .i64 x.ability.trigger.filter.value.n, .sb x.ability.may, .sl 18 (M.m GSpec (eGSpec M) x.ability.specs) false, .sl 64 (M.m GEffect (eGEffect M) x.ability.effects) false, .si .i64 x.ability.replace.on, .si .i64 x.ability.replace.who, .si .i64 x.ability.replace.filter.zone, .si .i64 x.ability.replace.filter.who, .si .i64 x.ability.replace.filter.self, .si .i64 x.ability.replace.filter.types, .si .i64 x.ability.replace.filter.notTypes, .si .i64 x.ability.replace.filter.colors, .si .i64 x.ability.replace.filter.notColors, .str x.ability.replace.filter.sub, .si .i64 x.ability.replace.filter.keys, .si .i64 x.ability.replace.filter.tap, .si .i64 x.ability.replace.filter.power.kind, .si .i64 x.ability.replace.filter.power.n, .si .i64 x.ability.replace.filter.tough.kind, .si .i64 x.ability.replace.filter.tough.n, .si .i64 x.ability.replace.filter.value.kind, .si .i64 x.ability.replace.filter.value.n, .si .i64 x.ability.replace.doF, .si .i64 x.ability.replace.n, .si .i64 x.ability.replace.zone, .si .i64 x.ability.replace.counter, .sl 2 (M.m GTarget (eGTarget M) x.targets) false, .si .i64 x.event.kind, .si .i64 x.event.source, .si .i64 x.event.object, .si .i64 x.event.player, .si .i64 x.event.amount, .si .i64 x.event.fromF, .si .i64 x.event.to, .si .i64 x.event.cause, .si .i64 x.event.counter, .si .i64 x.event.card, .sb x.event.combat, .sb x.event.tapped, .si .i64 x.event.extra.a0, .si .i64 x.event.extra.a1, .si .i64 x.event.extra.a2]
def zGItem : GItem := GItem.mk 0 0 0 0 0 false zGAbility ([]) zGEvent
structure GWaiting where
  source : Int
  control : Int
  ability : GAbility
  event : GEvent
def eGWaiting (M : EncM) (x : GWaiting) : List PV := [.si .i64 x.source, .si .i64 x.control, .si .i64 x.ability.kind, .si .i64 x.ability.filter.zone, .si .i64 x.ability.filter.who, .si .i64 x.ability.filter.self, .si .i64 x.ability.filter.types, .si .i64 x.ability.filter.notTypes, .si .i64 x.ability.filter.colors, .si .i64 x.ability.filter.notColors, .str x.ability.filter.sub, .si .i64 x.ability.filter.keys, .si .i64 x.ability.filter.tap, .si .i64 x.ability.filter.power.kind, .si .i64 x.ability.filter.power.n, .si .i64 x.ability.filter.tough.kind, .si .i64 x.ability.filter.tough.n, .si .i64 x.ability.filter.value.kind, .si .i64 x.ability.filter.value.n, .sl 20 (M.m GMod (eGMod M) x.ability.mods) false, .si .i64 x.ability.price.mana.generic, .si .i64 x.ability.price.mana.x, .si .i64 x.ability.price.mana.color.a0, .si .i64 x.ability.price.mana.color.a1, .si .i64 x.ability.price.mana.color.a2, .si .i64 x.ability.price.mana.color.a3, .si .i64 x.ability.price.mana.color.a4, .sb x.ability.price.tap, .sb x.ability.price.sacrifice, .si .i64 x.ability.price.life, .sb x.ability.slow, .si .i64 x.ability.trigger.when, .si .i64 x.ability.trigger.who, .si .i64 x.ability.trigger.filter.zone, .si .i64 x.ability.trigger.filter.who, .si .i64 x.ability.trigger.filter.self, .si .i64 x.ability.trigger.filter.types, .si .i64 x.ability.trigger.filter.notTypes, .si .i64 x.ability.trigger.filter.colors, .si .i64 x.ability.trigger.filter.notColors, .str x.ability.trigger.filter.sub, .si .i64 x.ability.trigger.filter.keys, .si .i64 x.ability.trigger.filter.tap, .si .i64 x.ability.trigger.filter.power.kind, .si .i64 x.ability.trigger.filter.power.n, .si .i64 x.ability.trigger.filter.tough.kind, .si .i64 x.ability.trigger.filter.tough.n, .si .i64 x.ability.trigger.filter.value.kind, .si .i64 x.ability.trigger.filter.value.n, .sb x.ability.may, .sl 18 (M.m GSpec (eGSpec M) x.ability.specs) false, .sl 64 (M.m GEffect (eGEffect M) x.ability.effects) false, .si .i64 x.ability.replace.on, .si .i64 x.ability.replace.who, .si .i64 x.ability.replace.filter.zone, .si .i64 x.ability.replace.filter.who, .si .i64 x.ability.replace.filter.self, .si .i64 x.ability.replace.filter.types, .si .i64 x.ability.replace.filter.notTypes, .si .i64 x.ability.replace.filter.colors, .si .i64 x.ability.replace.filter.notColors, .str x.ability.replace.filter.sub, .si .i64 x.ability.replace.filter.keys, .si .i64 x.ability.replace.filter.tap, .si .i64 x.ability.replace.filter.power.kind, .si .i64 x.ability.replace.filter.power.n, .si .i64 x.ability.replace.filter.tough.kind, .si .i64 x.ability.replace.filter.tough.n, .si .i64 x.ability.replace.filter.value.kind, .si .i64 x.ability.replace.filter.value.n, .si .i64 x.ability.replace.doF, .si .i64 x.ability.replace.n, .si .i64 x.ability.replace.zone, .si .i64 x.ability.replace.counter, .si .i64 x.event.kind, .si .i64 x.event.source, .si .i64 x.event.object, .si .i64 x.event.player, .si .i64 x.event.amount, .si .i64 x.event.fromF, .si .i64 x.event.to, .si .i64 x.event.cause, .si .i64 x.event.counter, .si .i64 x.event.card, .sb x.event.combat, .sb x.event.tapped, .si .i64 x.event.extra.a0, .si .i64 x.event.extra.a1, .si .i64 x.event.extra.a2]
def zGWaiting : GWaiting := GWaiting.mk 0 0 zGAbility zGEvent
structure GCont where
  stamp : Int
  control : Int
  source : Int
  untilF : Int
  objects : List Int
  mods : List GMod
def eGCont (M : EncM) (x : GCont) : List PV := [.si .i64 x.stamp, .si .i64 x.control, .si .i64 x.source, .si .i64 x.untilF, .sl 1 (M.m Int (eI .i64) x.objects) false, .sl 20 (M.m GMod (eGMod M) x.mods) false]
def zGCont : GCont := GCont.mk 0 0 0 0 ([]) ([])
structure GState where
  players : List GPlayer
  objects : List GObject
  battlefield : List Int
  exile : List Int
  stack : List GItem
  waiting : List GWaiting
  conts : List GCont
  turn : Int
  active : Int
  step : Int
  begun : Bool
  priority : Int
  passes : Int
  nextId : Int
  nextStamp : Int
  seed : Int
  extra : List Int
  over : Int
  winner : Int
def eGState (M : EncM) (x : GState) : List PV := [.sl 14 (M.m GPlayer (eGPlayer M) x.players) false, .sl 19 (M.m GObject (eGObject M) x.objects) false, .sl 1 (M.m Int (eI .i64) x.battlefield) false, .sl 1 (M.m Int (eI .i64) x.exile) false, .sl 94 (M.m GItem (eGItem M) x.stack) false, .sl 89 (M.m GWaiting (eGWaiting M) x.waiting) false, .sl 6 (M.m GCont (eGCont M) x.conts) false, .si .i64 x.turn, .si .i64 x.active, .si .i64 x.step, .sb x.begun, .si .i64 x.priority, .si .i64 x.passes, .si .i64 x.nextId, .si .i64 x.nextStamp, .si .u64 x.seed, .sl 1 (M.m Int (eI .i64) x.extra) false, .si .i64 x.over, .si .i64 x.winner]
def zGState : GState := GState.mk ([]) ([]) ([]) ([]) ([]) ([]) ([]) 0 0 0 false 0 0 0 0 0 ([]) 0 0
def ask_copied_int (l : List Int) : Option (List Int) :=
 roomO l.length 8 (
 some l)
def ask_New_l1 (answers : List (List Int)) (s1 : Int × (List (List Int))) (k2 : (Int × (List (List Int))) → Option GAskAsker) : Option GAskAsker :=
 br (decide (s1.1 < (lenI answers))) (bnd (ixL answers s1.1) fun x4 =>
 bnd (ask_copied_int x4) fun y5 =>
 roomO (s1.2.length + ([y5]).length) 24 (
 k2 ((addI s1.1 1), (s1.2 ++ [y5]))))
 (some (GAskAsker.mk s1.2 0 zGChoice false false))
def ask_New (answers : List (List Int)) : Option GAskAsker :=
 loopF (ask_New_l1 answers) (0, [])
def mana_Is_l1 (c : GCost) (s1 : Int) (k2 : Int → Option Bool) : Option Bool :=
 br (decide (s1 < 5)) (jn (fun s4 : Int =>
 jn (fun s8 : Bool =>
 br s8 (some false)
 (k2 (addI s1 1))) fun k9 =>
 br (decide (s4 < 0)) (k9 true)
 (k9 (decide (9 < s4)))) fun k5 =>
 sel s1 5 fun j7 => (match j7 with | 0 => (k5 c.color.a0)  | 1 => (k5 c.color.a1)  | 2 => (k5 c.color.a2)  | 3 => (k5 c.color.a3)  | _ => (k5 c.color.a4) ))
 (br (decide (0 ≤ c.generic)) (br (decide (c.generic ≤ 99)) (br (decide (0 ≤ c.x)) (some (decide (c.x ≤ 2)))
 (some false))
 (some false))
 (some false))
def mana_Is (c : GCost) : Option Bool :=
 loopF (mana_Is_l1 c) 0
def mana_Whole_l1 (p : Arr6 Int) (s1 : Int) (k2 : Int → Option Bool) : Option Bool :=
 br (decide (s1 < 6)) (jn (fun s4 : Int =>
 jn (fun s8 : Bool =>
 br s8 (some false)
 (k2 (addI s1 1))) fun k9 =>
 br (decide (s4 < 0)) (k9 true)
 (k9 (decide (1000000 < s4)))) fun k5 =>
 sel s1 6 fun j7 => (match j7 with | 0 => (k5 p.a0)  | 1 => (k5 p.a1)  | 2 => (k5 p.a2)  | 3 => (k5 p.a3)  | 4 => (k5 p.a4)  | _ => (k5 p.a5) ))
 (some true)
def mana_Whole (p : Arr6 Int) : Option Bool :=
 loopF (mana_Whole_l1 p) 0
def mana_Pay_l1 (c : GCost) (x : Int) (s11 : (Arr6 Int) × Int) (k12 : ((Arr6 Int) × Int) → Option ((Arr6 Int) × Int)) : Option ((Arr6 Int) × Int) :=
 br (decide (s11.2 < 5)) (jn (fun s14 : Int =>
 jn (fun s18 : (Arr6 Int) =>
 jn (fun s28 : Bool =>
 br s28 (some (zArr6I, 12))
 (k12 (s18, (addI s11.2 1)))) fun k29 =>
 sel (addI s11.2 1) 6 fun j31 => (match j31 with | 0 => (k29 (decide (s18.a0 < 0)))  | 1 => (k29 (decide (s18.a1 < 0)))  | 2 => (k29 (decide (s18.a2 < 0)))  | 3 => (k29 (decide (s18.a3 < 0)))  | 4 => (k29 (decide (s18.a4 < 0)))  | _ => (k29 (decide (s18.a5 < 0))) )) fun k19 =>
 sel (addI s11.2 1) 6 fun j21 => (match j21 with | 0 => (sel (addI s11.2 1) 6 fun j22 => (match j22 with | 0 => (k19 { s11.1 with a0 := (subI s11.1.a0 s14) })  | 1 => (k19 { s11.1 with a1 := (subI s11.1.a0 s14) })  | 2 => (k19 { s11.1 with a2 := (subI s11.1.a0 s14) })  | 3 => (k19 { s11.1 with a3 := (subI s11.1.a0 s14) })  | 4 => (k19 { s11.1 with a4 := (subI s11.1.a0 s14) })  | _ => (k19 { s11.1 with a5 := (subI s11.1.a0 s14) }) ))  | 1 => (sel (addI s11.2 1) 6 fun j23 => (match j23 with | 0 => (k19 { s11.1 with a0 := (subI s11.1.a1 s14) })  | 1 => (k19 { s11.1 with a1 := (subI s11.1.a1 s14) })  | 2 => (k19 { s11.1 with a2 := (subI s11.1.a1 s14) })  | 3 => (k19 { s11.1 with a3 := (subI s11.1.a1 s14) })  | 4 => (k19 { s11.1 with a4 := (subI s11.1.a1 s14) })  | _ => (k19 { s11.1 with a5 := (subI s11.1.a1 s14) }) ))  | 2 => (sel (addI s11.2 1) 6 fun j24 => (match j24 with | 0 => (k19 { s11.1 with a0 := (subI s11.1.a2 s14) })  | 1 => (k19 { s11.1 with a1 := (subI s11.1.a2 s14) })  | 2 => (k19 { s11.1 with a2 := (subI s11.1.a2 s14) })  | 3 => (k19 { s11.1 with a3 := (subI s11.1.a2 s14) })  | 4 => (k19 { s11.1 with a4 := (subI s11.1.a2 s14) })  | _ => (k19 { s11.1 with a5 := (subI s11.1.a2 s14) }) ))  | 3 => (sel (addI s11.2 1) 6 fun j25 => (match j25 with | 0 => (k19 { s11.1 with a0 := (subI s11.1.a3 s14) })  | 1 => (k19 { s11.1 with a1 := (subI s11.1.a3 s14) })  | 2 => (k19 { s11.1 with a2 := (subI s11.1.a3 s14) })  | 3 => (k19 { s11.1 with a3 := (subI s11.1.a3 s14) })  | 4 => (k19 { s11.1 with a4 := (subI s11.1.a3 s14) })  | _ => (k19 { s11.1 with a5 := (subI s11.1.a3 s14) }) ))  | 4 => (sel (addI s11.2 1) 6 fun j26 => (match j26 with | 0 => (k19 { s11.1 with a0 := (subI s11.1.a4 s14) })  | 1 => (k19 { s11.1 with a1 := (subI s11.1.a4 s14) })  | 2 => (k19 { s11.1 with a2 := (subI s11.1.a4 s14) })  | 3 => (k19 { s11.1 with a3 := (subI s11.1.a4 s14) })  | 4 => (k19 { s11.1 with a4 := (subI s11.1.a4 s14) })  | _ => (k19 { s11.1 with a5 := (subI s11.1.a4 s14) }) ))  | _ => (sel (addI s11.2 1) 6 fun j27 => (match j27 with | 0 => (k19 { s11.1 with a0 := (subI s11.1.a5 s14) })  | 1 => (k19 { s11.1 with a1 := (subI s11.1.a5 s14) })  | 2 => (k19 { s11.1 with a2 := (subI s11.1.a5 s14) })  | 3 => (k19 { s11.1 with a3 := (subI s11.1.a5 s14) })  | 4 => (k19 { s11.1 with a4 := (subI s11.1.a5 s14) })  | _ => (k19 { s11.1 with a5 := (subI s11.1.a5 s14) }) )) )) fun k15 =>
 sel s11.2 5 fun j17 => (match j17 with | 0 => (k15 c.color.a0)  | 1 => (k15 c.color.a1)  | 2 => (k15 c.color.a2)  | 3 => (k15 c.color.a3)  | _ => (k15 c.color.a4) ))
 (lt (subI s11.1.a0 (if s11.1.a0 < (addI c.generic (mulI c.x x)) then s11.1.a0 else (addI c.generic (mulI c.x x)))) fun v33 =>
 lt (subI (addI c.generic (mulI c.x x)) (if s11.1.a0 < (addI c.generic (mulI c.x x)) then s11.1.a0 else (addI c.generic (mulI c.x x)))) fun v34 =>
 lt (subI s11.1.a2 (if s11.1.a2 < (subI v34 (if s11.1.a1 < v34 then s11.1.a1 else v34)) then s11.1.a2 else (subI v34 (if s11.1.a1 < v34 then s11.1.a1 else v34)))) fun v35 =>
 lt (subI (subI v34 (if s11.1.a1 < v34 then s11.1.a1 else v34)) (if s11.1.a2 < (subI v34 (if s11.1.a1 < v34 then s11.1.a1 else v34)) then s11.1.a2 else (subI v34 (if s11.1.a1 < v34 then s11.1.a1 else v34)))) fun v36 =>
 lt (subI s11.1.a4 (if s11.1.a4 < (subI v36 (if s11.1.a3 < v36 then s11.1.a3 else v36)) then s11.1.a4 else (subI v36 (if s11.1.a3 < v36 then s11.1.a3 else v36)))) fun v37 =>
 lt (subI (subI v36 (if s11.1.a3 < v36 then s11.1.a3 else v36)) (if s11.1.a4 < (subI v36 (if s11.1.a3 < v36 then s11.1.a3 else v36)) then s11.1.a4 else (subI v36 (if s11.1.a3 < v36 then s11.1.a3 else v36)))) fun v38 =>
 lt (decide (0 < (subI v38 (if s11.1.a5 < v38 then s11.1.a5 else v38)))) fun v39 =>
 br v39 (some (zArr6I, 12))
 (some ((Arr6.mk v33 (subI s11.1.a1 (if s11.1.a1 < v34 then s11.1.a1 else v34)) v35 (subI s11.1.a3 (if s11.1.a3 < v36 then s11.1.a3 else v36)) v37 (subI s11.1.a5 (if s11.1.a5 < v38 then s11.1.a5 else v38))), 0)))
def mana_Pay (p : Arr6 Int) (c : GCost) (x : Int) : Option ((Arr6 Int) × Int) :=
 jn (fun s1 : Bool =>
 br s1 (some (zArr6I, 1))
 (jn (fun s6 : Bool =>
 br s6 (some (p, 0))
 (loopF (mana_Pay_l1 c x) (p, 0))) fun k7 =>
 lt (decide (p.a0 = 0) && (decide (p.a1 = 0) && (decide (p.a2 = 0) && (decide (p.a3 = 0) && (decide (p.a4 = 0) && (decide (p.a5 = 0) && true)))))) fun v9 =>
 br v9 (lt (decide (c.generic = 0) && (decide (c.x = 0) && (decide (c.color.a0 = 0) && (decide (c.color.a1 = 0) && (decide (c.color.a2 = 0) && (decide (c.color.a3 = 0) && (decide (c.color.a4 = 0) && true))))))) fun v10 =>
 k7 v10)
 (k7 false))) fun k2 =>
 bnd (mana_Is c) fun y4 =>
 br (y4 == false) (k2 true)
 (bnd (mana_Whole p) fun y5 =>
 br (y5 == false) (k2 true)
 (br (decide (x < 0)) (k2 true)
 (k2 (decide (1000000 < x)))))
def mana_CanPay (p : Arr6 Int) (c : GCost) (x : Int) : Option Bool :=
 bnd (mana_Pay p c x) fun y1 =>
 some (decide (y1.2 = 0))
def cost_MostX_1 (x : Int) (c1 : Arr6 Int) (c2 : GCost) : Option Bool :=
 bnd (mana_CanPay c1 c2 x) fun y1 =>
 some y1
def cost_MostX_l1 (p : Arr6 Int) (c : GCost) (s2 : Int × Int) (k3 : (Int × Int) → Option Int) : Option Int :=
 br (decide (s2.1 < s2.2)) (bnd (divO .quo .i64 (subI s2.2 s2.1) 2) fun x5 =>
 bnd (cost_MostX_1 (subI s2.2 x5) p c) fun y6 =>
 br y6 (k3 ((subI s2.2 x5), s2.2))
 (k3 (s2.1, (subI (subI s2.2 x5) 1))))
 (some s2.1)
def cost_MostX (p : Arr6 Int) (c : GCost) : Option Int :=
 bnd (cost_MostX_1 0 p c) fun y1 =>
 br (y1 == false) (some (-1))
 (br (decide (c.x = 0)) (some 0)
 (loopF (cost_MostX_l1 p c) (0, 1000000)))
def r26_New_l1 (players : Int) (first : Int) (seed : Int) (s1 : Int × (List GPlayer)) (k2 : (Int × (List GPlayer)) → Option GState) : Option GState :=
 lt (decide (s1.1 < (if 4 < (if players < 2 then 2 else players) then 4 else (if players < 2 then 2 else players)))) fun v4 =>
 br v4 (lt (GPlayer.mk 20 0 0 zArr6I false false ([]) ([]) ([])) fun x5 =>
 roomO (s1.2.length + ([x5]).length) 152 (
 k2 ((addI s1.1 1), (s1.2 ++ [x5]))))
 (jn (fun s6 : Bool =>
 br s6 (some (GState.mk s1.2 ([]) ([]) ([]) ([]) ([]) ([]) 0 first 0 false first 0 1 1 seed ([]) 0 (-1)))
 (some (GState.mk s1.2 ([]) ([]) ([]) ([]) ([]) ([]) 0 0 0 false 0 0 1 1 seed ([]) 0 (-1)))) fun k7 =>
 br (decide (0 ≤ first)) (lt (decide (first < (if 4 < (if players < 2 then 2 else players) then 4 else (if players < 2 then 2 else players)))) fun v9 =>
 k7 v9)
 (k7 false))
def r26_New (players : Int) (first : Int) (seed : Int) : Option GState :=
 loopF (r26_New_l1 players first seed) (0, [])
def slices_Clone_player (s : List GPlayer) : Option (List GPlayer) :=
 nlO (some ([]))
 (roomO (0 + s.length) 152 (
 some s))
def slices_Clone_int (s : List Int) : Option (List Int) :=
 nlO (some ([]))
 (roomO (0 + s.length) 8 (
 some s))
def zone_copyPlayer (p : GPlayer) : Option GPlayer :=
 bnd (slices_Clone_int p.library) fun y1 =>
 bnd (slices_Clone_int p.hand) fun y2 =>
 bnd (slices_Clone_int p.graveyard) fun y3 =>
 some { p with library := y1, hand := y2, graveyard := y3 }
def slices_Clone_object (s : List GObject) : Option (List GObject) :=
 nlO (some ([]))
 (roomO (0 + s.length) 128 (
 some s))
def slices_Clone_item (s : List GItem) : Option (List GItem) :=
 nlO (some ([]))
 (roomO (0 + s.length) 824 (
 some s))
def slices_Clone_mod (s : List GMod) : Option (List GMod) :=
 nlO (some ([]))
 (roomO (0 + s.length) 176 (
 some s))
def slices_Clone_spec (s : List GSpec) : Option (List GSpec) :=
 nlO (some ([]))
 (roomO (0 + s.length) 144 (
 some s))
def slices_Clone_effect (s : List GEffect) : Option (List GEffect) :=
 nlO (some ([]))
 (roomO (0 + s.length) 560 (
 some s))
def zone_copyAbility_l1 (a : GAbility) (y1 : List GMod) (y2 : List GSpec) (y3 : List GEffect) (s4 : Int × (List GEffect)) (k5 : (Int × (List GEffect)) → Option GAbility) : Option GAbility :=
 br (decide (s4.1 < (lenI y3))) (bnd (ixO s4.2.length s4.1) fun j7 =>
 bnd (s4.2[j7]?) fun x8 =>
 bnd (slices_Clone_mod x8.mods) fun y9 =>
 bnd (ixO s4.2.length s4.1) fun j10 =>
 bnd (s4.2[j10]?) fun x11 =>
 k5 ((addI s4.1 1), (s4.2.set j10 { x11 with mods := y9 })))
 (some { a with mods := y1, specs := y2, effects := s4.2 })
def zone_copyAbility (a : GAbility) : Option GAbility :=
 bnd (slices_Clone_mod a.mods) fun y1 =>
 bnd (slices_Clone_spec a.specs) fun y2 =>
 bnd (slices_Clone_effect a.effects) fun y3 =>
 loopF (zone_copyAbility_l1 a y1 y2 y3) (0, y3)
def slices_Clone_target (s : List GTarget) : Option (List GTarget) :=
 nlO (some ([]))
 (roomO (0 + s.length) 16 (
 some s))
def slices_Clone_waiting (s : List GWaiting) : Option (List GWaiting) :=
 nlO (some ([]))
 (roomO (0 + s.length) 768 (
 some s))
def slices_Clone_cont (s : List GCont) : Option (List GCont) :=
 nlO (some ([]))
 (roomO (0 + s.length) 80 (
 some s))
def zone_Copy_l1 (s : GState) (s2 : Int × (List GPlayer)) (y10 : List GObject) (y11 : List Int) (y12 : List Int) (s14 : Int × (List GItem)) (s28 : Int × (List GWaiting)) (y36 : List GCont) (s37 : Int × (List GCont)) (k38 : (Int × (List GCont)) → Option GState) : Option GState :=
 br (decide (s37.1 < (lenI y36))) (bnd (ixO s37.2.length s37.1) fun j40 =>
 bnd (s37.2[j40]?) fun x41 =>
 bnd (slices_Clone_int x41.objects) fun y42 =>
 bnd (ixO s37.2.length s37.1) fun j43 =>
 bnd (s37.2[j43]?) fun x44 =>
 bnd (ixO s37.2.length s37.1) fun j45 =>
 bnd ((s37.2.set j43 { x44 with objects := y42 })[j45]?) fun x46 =>
 bnd (slices_Clone_mod x46.mods) fun y47 =>
 bnd (ixO s37.2.length s37.1) fun j48 =>
 bnd ((s37.2.set j43 { x44 with objects := y42 })[j48]?) fun x49 =>
 k38 ((addI s37.1 1), ((s37.2.set j43 { x44 with objects := y42 }).set j48 { x49 with mods := y47 })))
 (bnd (slices_Clone_int s.extra) fun y50 =>
 some { s with players := s2.2, objects := y10, battlefield := y11, exile := y12, stack := s14.2, waiting := s28.2, conts := s37.2, extra := y50 })
def zone_Copy_l2 (s : GState) (s2 : Int × (List GPlayer)) (y10 : List GObject) (y11 : List Int) (y12 : List Int) (s14 : Int × (List GItem)) (y27 : List GWaiting) (s28 : Int × (List GWaiting)) (k29 : (Int × (List GWaiting)) → Option GState) : Option GState :=
 br (decide (s28.1 < (lenI y27))) (bnd (ixO s28.2.length s28.1) fun j31 =>
 bnd (s28.2[j31]?) fun x32 =>
 bnd (zone_copyAbility x32.ability) fun y33 =>
 bnd (ixO s28.2.length s28.1) fun j34 =>
 bnd (s28.2[j34]?) fun x35 =>
 k29 ((addI s28.1 1), (s28.2.set j34 { x35 with ability := y33 })))
 (bnd (slices_Clone_cont s.conts) fun y36 =>
 loopF (zone_Copy_l1 s s2 y10 y11 y12 s14 s28 y36) (0, y36))
def zone_Copy_l3 (s : GState) (s2 : Int × (List GPlayer)) (y10 : List GObject) (y11 : List Int) (y12 : List Int) (y13 : List GItem) (s14 : Int × (List GItem)) (k15 : (Int × (List GItem)) → Option GState) : Option GState :=
 br (decide (s14.1 < (lenI y13))) (bnd (ixO s14.2.length s14.1) fun j17 =>
 bnd (s14.2[j17]?) fun x18 =>
 bnd (zone_copyAbility x18.ability) fun y19 =>
 bnd (ixO s14.2.length s14.1) fun j20 =>
 bnd (s14.2[j20]?) fun x21 =>
 bnd (ixO s14.2.length s14.1) fun j22 =>
 bnd ((s14.2.set j20 { x21 with ability := y19 })[j22]?) fun x23 =>
 bnd (slices_Clone_target x23.targets) fun y24 =>
 bnd (ixO s14.2.length s14.1) fun j25 =>
 bnd ((s14.2.set j20 { x21 with ability := y19 })[j25]?) fun x26 =>
 k15 ((addI s14.1 1), ((s14.2.set j20 { x21 with ability := y19 }).set j25 { x26 with targets := y24 })))
 (bnd (slices_Clone_waiting s.waiting) fun y27 =>
 loopF (zone_Copy_l2 s s2 y10 y11 y12 s14 y27) (0, y27))
def zone_Copy_l4 (s : GState) (y1 : List GPlayer) (s2 : Int × (List GPlayer)) (k3 : (Int × (List GPlayer)) → Option GState) : Option GState :=
 br (decide (s2.1 < (lenI y1))) (bnd (ixO s2.2.length s2.1) fun j5 =>
 bnd (s2.2[j5]?) fun x6 =>
 bnd (zone_copyPlayer x6) fun y7 =>
 bnd (ixO s2.2.length s2.1) fun j8 =>
 bnd (s2.2[j8]?) fun x9 =>
 k3 ((addI s2.1 1), (s2.2.set j8 y7)))
 (bnd (slices_Clone_object s.objects) fun y10 =>
 bnd (slices_Clone_int s.battlefield) fun y11 =>
 bnd (slices_Clone_int s.exile) fun y12 =>
 bnd (slices_Clone_item s.stack) fun y13 =>
 loopF (zone_Copy_l3 s s2 y10 y11 y12 y13) (0, y13))
def zone_Copy (s : GState) : Option GState :=
 bnd (slices_Clone_player s.players) fun y1 =>
 loopF (zone_Copy_l4 s y1) (0, y1)
def ask_Forced (c : GChoice) : Option Bool :=
 br (decide (c.kind = 1)) (some (decide ((lenI c.options) ≤ 1)))
 (br (decide (c.kind = 2)) (some (decide ((lenI c.options) ≤ 1)))
 (br (decide (c.kind = 9)) (some (decide ((lenI c.options) ≤ 1)))
 (br (decide (c.kind = 10)) (some (decide ((lenI c.options) ≤ 1)))
 (br (decide (c.kind = 11)) (some (decide ((lenI c.options) ≤ 1)))
 (br (decide (c.kind = 4)) (some (decide ((lenI c.options) ≤ 1)))
 (br (decide (c.kind = 8)) (some (decide ((lenI c.options) ≤ 1)))
 (br (decide (c.kind = 6)) (some (decide ((lenI c.options) = 0)))
 (br (decide (c.kind = 7)) (some (decide ((lenI c.options) = 0)))
 (br (decide (c.kind = 3)) (br (decide (c.least = c.most)) (br (decide (c.least = 0)) (some true)
 (some (decide (c.least = (lenI c.options)))))
 (some false))
 (br (decide (c.kind = 5)) (some (decide (c.least = c.most)))
 (some true)))))))))))
def ask_first_l1 (n : Int) (s1 : Int × (List Int)) (k2 : (Int × (List Int)) → Option (List Int)) : Option (List Int) :=
 br (decide (s1.1 < n)) (roomO (s1.2.length + ([s1.1]).length) 8 (
 k2 ((addI s1.1 1), (s1.2 ++ [s1.1]))))
 (some s1.2)
def ask_first (n : Int) : Option (List Int) :=
 loopF (ask_first_l1 n) (0, [])
def ask_Default (c : GChoice) : Option (List Int) :=
 br (decide (c.kind = 1)) (lt 0 fun x1 =>
 some ([x1]))
 (br (decide (c.kind = 2)) (lt 0 fun x2 =>
 some ([x2]))
 (br (decide (c.kind = 9)) (lt 0 fun x3 =>
 some ([x3]))
 (br (decide (c.kind = 10)) (lt 0 fun x4 =>
 some ([x4]))
 (br (decide (c.kind = 11)) (lt 0 fun x5 =>
 some ([x5]))
 (br (decide (c.kind = 3)) (bnd (ask_first (if (lenI c.options) < (if c.least < 0 then 0 else c.least) then (lenI c.options) else (if c.least < 0 then 0 else c.least))) fun y6 =>
 some y6)
 (br (decide (c.kind = 4)) (bnd (ask_first (lenI c.options)) fun y7 =>
 some y7)
 (br (decide (c.kind = 5)) (some ([c.least]))
 (br (decide (c.kind = 8)) (br (decide (0 < (lenI c.options))) (bnd (mksO (lenI c.options) (lenI c.options) 8) fun j8 =>
 lt 0 fun x9 =>
 bnd (ixO j8 0) fun j10 =>
 bnd ((List.replicate j8 x9)[j10]?) fun x11 =>
 some ((List.replicate j8 x9).set j10 c.n))
 (some ([])))
 (some ([]))))))))))
def ask_copied_option (l : List GOption) : Option (List GOption) :=
 roomO l.length 24 (
 some l)
def slices_Index_int_l1 (s : List Int) (v : Int) (s1 : Int) (k2 : Int → Option Int) : Option Int :=
 br (decide (s1 < (lenI s))) (bnd (ixL s s1) fun x4 =>
 br (decide (v = x4)) (some s1)
 (k2 (addI s1 1)))
 (some (-1))
def slices_Index_int (s : List Int) (v : Int) : Option Int :=
 loopF (slices_Index_int_l1 s v) 0
def idset_Index (l : List Int) (n : Int) : Option Int :=
 bnd (slices_Index_int l n) fun y1 =>
 some y1
def ask_indexes_l1 (c : GChoice) (a : List Int) (s1 : Int) (k2 : Int → Option Bool) : Option Bool :=
 br (decide (s1 < (lenI a))) (bnd (ixL a s1) fun x4 =>
 jn (fun s5 : Bool =>
 br s5 (some false)
 (k2 (addI s1 1))) fun k6 =>
 br (decide (x4 < 0)) (k6 true)
 (br (decide ((lenI c.options) ≤ x4)) (k6 true)
 (bnd (idset_Index a x4) fun y8 =>
 k6 (!decide (y8 = s1)))))
 (some true)
def ask_indexes (c : GChoice) (a : List Int) : Option Bool :=
 loopF (ask_indexes_l1 c a) 0
def slices_Contains_int (s : List Int) (v : Int) : Option Bool :=
 bnd (slices_Index_int s v) fun y1 =>
 some (decide (0 ≤ y1))
def idset_Has (l : List Int) (n : Int) : Option Bool :=
 bnd (slices_Contains_int l n) fun y1 =>
 some y1
def ask_distinct_l1 (c : GChoice) (a : List Int) (s1 : Int × (List Int)) (k2 : (Int × (List Int)) → Option Bool) : Option Bool :=
 br (decide (s1.1 < (lenI a))) (bnd (ixL a s1.1) fun x4 =>
 bnd (ixL c.options x4) fun x5 =>
 bnd (idset_Has s1.2 x5.a) fun y6 =>
 br y6 (some false)
 (bnd (ixL c.options x4) fun x7 =>
 roomO (s1.2.length + ([x7.a]).length) 8 (
 k2 ((addI s1.1 1), (s1.2 ++ [x7.a])))))
 (some true)
def ask_distinct (c : GChoice) (a : List Int) : Option Bool :=
 loopF (ask_distinct_l1 c a) (0, [])
def ask_assigned_l1 (c : GChoice) (a : List Int) (s1 : Int × Int) (k2 : (Int × Int) → Option Bool) : Option Bool :=
 br (decide (s1.2 < (lenI a))) (bnd (ixL a s1.2) fun x4 =>
 jn (fun s5 : Bool =>
 br s5 (some false)
 (k2 ((addI s1.1 x4), (addI s1.2 1)))) fun k6 =>
 br (decide (x4 < 0)) (k6 true)
 (k6 (decide (1000000 < x4))))
 (br (decide ((lenI a) = (lenI c.options))) (some (decide (s1.1 = c.n)))
 (some false))
def ask_assigned (c : GChoice) (a : List Int) : Option Bool :=
 loopF (ask_assigned_l1 c a) (0, 0)
def ask_Valid (c : GChoice) (a : List Int) : Option Bool :=
 br (decide (256 < (lenI a))) (some false)
 (br (decide (c.kind = 1)) (br (decide ((lenI a) = 1)) (bnd (ask_indexes c a) fun y1 =>
 some y1)
 (some false))
 (br (decide (c.kind = 2)) (br (decide ((lenI a) = 1)) (bnd (ask_indexes c a) fun y2 =>
 some y2)
 (some false))
 (br (decide (c.kind = 9)) (br (decide ((lenI a) = 1)) (bnd (ask_indexes c a) fun y3 =>
 some y3)
 (some false))
 (br (decide (c.kind = 10)) (br (decide ((lenI a) = 1)) (bnd (ask_indexes c a) fun y4 =>
 some y4)
 (some false))
 (br (decide (c.kind = 11)) (br (decide ((lenI a) = 1)) (bnd (ask_indexes c a) fun y5 =>
 some y5)
 (some false))
 (br (decide (c.kind = 3)) (br (decide (c.least ≤ (lenI a))) (br (decide ((lenI a) ≤ c.most)) (bnd (ask_indexes c a) fun y6 =>
 some y6)
 (some false))
 (some false))
 (br (decide (c.kind = 4)) (br (decide ((lenI a) = (lenI c.options))) (bnd (ask_indexes c a) fun y7 =>
 some y7)
 (some false))
 (br (decide (c.kind = 5)) (br (decide ((lenI a) = 1)) (bnd (ixL a 0) fun x8 =>
 br (decide (c.least ≤ x8)) (bnd (ixL a 0) fun x9 =>
 some (decide (x9 ≤ c.most)))
 (some false))
 (some false))
 (br (decide (c.kind = 6)) (bnd (ask_indexes c a) fun y10 =>
 br y10 (bnd (ask_distinct c a) fun y11 =>
 some y11)
 (some false))
 (br (decide (c.kind = 7)) (bnd (ask_indexes c a) fun y12 =>
 br y12 (bnd (ask_distinct c a) fun y13 =>
 some y13)
 (some false))
 (br (decide (c.kind = 8)) (bnd (ask_assigned c a) fun y14 =>
 some y14)
 (some false))))))))))))
def ask_Asker_Pick (k : GAskAsker) (c : GChoice) : Option ((List Int) × GAskAsker) :=
 jn (fun s1 : Bool =>
 br s1 (bnd (ask_Default c) fun y5 =>
 some (y5, k))
 (br (decide (k.used = (lenI k.answers))) (bnd (ask_copied_option c.options) fun y6 =>
 bnd (ask_Default { c with options := y6 }) fun y7 =>
 some (y7, { k with pending := { c with options := y6 }, waits := true }))
 (bnd (ixL k.answers k.used) fun x8 =>
 bnd (ask_Valid c x8) fun y9 =>
 br (y9 == false) (bnd (ask_Default c) fun y10 =>
 some (y10, { k with used := (addI k.used 1), bad := true }))
 (bnd (ask_copied_int x8) fun y11 =>
 some (y11, { k with used := (addI k.used 1) }))))) fun k2 =>
 br k.waits (k2 true)
 (br k.bad (k2 true)
 (bnd (ask_Forced c) fun y4 =>
 k2 y4))
def cost_Mana (k : GAskAsker) (s : GState) (p : Int) (source : Int) (c : GCost) : Option (GState × Int × Bool × GAskAsker) :=
 jn (fun s1 : Bool =>
 br s1 (bnd (zone_Copy s) fun y4 =>
 some ({ y4 with players := y4.players, objects := y4.objects, battlefield := y4.battlefield, exile := y4.exile, stack := y4.stack, waiting := y4.waiting, conts := y4.conts, extra := y4.extra }, 0, false, k))
 (bnd (ixL s.players p) fun x5 =>
 bnd (cost_MostX x5.pool c) fun y6 =>
 br (decide (y6 < 0)) (bnd (zone_Copy s) fun y7 =>
 some ({ y7 with players := y7.players, objects := y7.objects, battlefield := y7.battlefield, exile := y7.exile, stack := y7.stack, waiting := y7.waiting, conts := y7.conts, extra := y7.extra }, 0, false, k))
 (jn (fun s8 : GAskAsker × Int =>
 bnd (ixL s.players p) fun x13 =>
 bnd (mana_Pay x13.pool c s8.2) fun y14 =>
 bnd (zone_Copy s) fun y15 =>
 bnd (ixO y15.players.length p) fun j16 =>
 bnd (y15.players[j16]?) fun x17 =>
 some ({ y15 with players := (y15.players.set j16 { x17 with pool := y14.1 }), objects := y15.objects, battlefield := y15.battlefield, exile := y15.exile, stack := y15.stack, waiting := y15.waiting, conts := y15.conts, extra := y15.extra }, s8.2, true, s8.1)) fun k9 =>
 br (decide (0 < c.x)) (bnd (ask_Asker_Pick k (GChoice.mk 5 p source 0 y6 0 ([]))) fun y11 =>
 bnd (ixL y11.1 0) fun x12 =>
 k9 (y11.2, x12))
 (k9 (k, 0))))) fun k2 =>
 br (decide (p < 0)) (k2 true)
 (k2 (decide ((lenI s.players) ≤ p)))
def law39_alive  : Option Bool :=
 bnd (r26_New 2 0 1) fun y1 =>
 bnd (ixO y1.players.length 0) fun j2 =>
 lt (Arr6.mk 1 1 0 0 2 0) fun x3 =>
 bnd (y1.players[j2]?) fun x4 =>
 bnd (ask_New ([])) fun y5 =>
 bnd (cost_Mana { y5 with answers := y5.answers } { y1 with players := (y1.players.set j2 { x4 with pool := x3 }) } 0 0 (GCost.mk 1 0 (Arr5.mk 0 0 0 1 0))) fun y6 =>
 bnd (ask_New ([])) fun y7 =>
 bnd (cost_Mana { y7 with answers := y7.answers } { y1 with players := (y1.players.set j2 { x4 with pool := x3 }) } 1 0 (GCost.mk 1 0 zArr5I)) fun y8 =>
 lt 2 fun x9 =>
 bnd (ask_New ([[x9]])) fun y10 =>
 bnd (cost_Mana { y10 with answers := y10.answers } { y1 with players := (y1.players.set j2 { x4 with pool := x3 }) } 0 0 (GCost.mk 0 1 zArr5I)) fun y11 =>
 bnd (cost_MostX (Arr6.mk 0 6 0 0 0 0) (GCost.mk 1 1 zArr5I)) fun y12 =>
 br (decide (y12 = 5)) (bnd (cost_MostX zArr6I zGCost) fun y13 =>
 br (decide (y13 = 0)) (bnd (cost_MostX zArr6I (GCost.mk 1 0 zArr5I)) fun y14 =>
 br (decide (y14 = (-1))) (br y6.2.2.1 (br (decide (y6.2.1 = 0)) (bnd (ixO y6.1.players.length 0) fun j15 =>
 bnd (y6.1.players[j15]?) fun x16 =>
 lt (decide (x16.pool.a0 = 0) && (decide (x16.pool.a1 = 1) && (decide (x16.pool.a2 = 0) && (decide (x16.pool.a3 = 0) && (decide (x16.pool.a4 = 1) && (decide (x16.pool.a5 = 0) && true)))))) fun v17 =>
 br v17 (br (y8.2.2.1 == false) (br y11.2.2.1 (some (decide (y11.2.1 = 2)))
 (some false))
 (some false))
 (some false))
 (some false))
 (some false))
 (some false))
 (some false))
 (some false)
def r08_Is_l1 (c : GCost) (s4 : Int) (k5 : Int → Option Bool) : Option Bool :=
 br (decide (s4 < 5)) (jn (fun s7 : Bool =>
 br s7 (some false)
 (k5 (addI s4 1))) fun k8 =>
 sel s4 5 fun j10 => (match j10 with | 0 => (br (decide (c.color.a0 < 0)) (k8 true) (sel s4 5 fun j11 => (match j11 with | 0 => (k8 (decide (9 < c.color.a0)))  | 1 => (k8 (decide (9 < c.color.a1)))  | 2 => (k8 (decide (9 < c.color.a2)))  | 3 => (k8 (decide (9 < c.color.a3)))  | _ => (k8 (decide (9 < c.color.a4))) )))  | 1 => (br (decide (c.color.a1 < 0)) (k8 true) (sel s4 5 fun j12 => (match j12 with | 0 => (k8 (decide (9 < c.color.a0)))  | 1 => (k8 (decide (9 < c.color.a1)))  | 2 => (k8 (decide (9 < c.color.a2)))  | 3 => (k8 (decide (9 < c.color.a3)))  | _ => (k8 (decide (9 < c.color.a4))) )))  | 2 => (br (decide (c.color.a2 < 0)) (k8 true) (sel s4 5 fun j13 => (match j13 with | 0 => (k8 (decide (9 < c.color.a0)))  | 1 => (k8 (decide (9 < c.color.a1)))  | 2 => (k8 (decide (9 < c.color.a2)))  | 3 => (k8 (decide (9 < c.color.a3)))  | _ => (k8 (decide (9 < c.color.a4))) )))  | 3 => (br (decide (c.color.a3 < 0)) (k8 true) (sel s4 5 fun j14 => (match j14 with | 0 => (k8 (decide (9 < c.color.a0)))  | 1 => (k8 (decide (9 < c.color.a1)))  | 2 => (k8 (decide (9 < c.color.a2)))  | 3 => (k8 (decide (9 < c.color.a3)))  | _ => (k8 (decide (9 < c.color.a4))) )))  | _ => (br (decide (c.color.a4 < 0)) (k8 true) (sel s4 5 fun j15 => (match j15 with | 0 => (k8 (decide (9 < c.color.a0)))  | 1 => (k8 (decide (9 < c.color.a1)))  | 2 => (k8 (decide (9 < c.color.a2)))  | 3 => (k8 (decide (9 < c.color.a3)))  | _ => (k8 (decide (9 < c.color.a4))) ))) ))
 (some true)
def r08_Is (c : GCost) : Option Bool :=
 jn (fun s1 : Bool =>
 br s1 (some false)
 (loopF (r08_Is_l1 c) 0)) fun k2 =>
 br (decide (c.generic < 0)) (k2 true)
 (br (decide (99 < c.generic)) (k2 true)
 (br (decide (c.x < 0)) (k2 true)
 (k2 (decide (2 < c.x)))))
def r08_Whole_l1 (p : Arr6 Int) (s1 : Int) (k2 : Int → Option Bool) : Option Bool :=
 br (decide (s1 < 6)) (jn (fun s4 : Bool =>
 br s4 (some false)
 (k2 (addI s1 1))) fun k5 =>
 sel s1 6 fun j7 => (match j7 with | 0 => (br (decide (p.a0 < 0)) (k5 true) (sel s1 6 fun j8 => (match j8 with | 0 => (k5 (decide (1000000 < p.a0)))  | 1 => (k5 (decide (1000000 < p.a1)))  | 2 => (k5 (decide (1000000 < p.a2)))  | 3 => (k5 (decide (1000000 < p.a3)))  | 4 => (k5 (decide (1000000 < p.a4)))  | _ => (k5 (decide (1000000 < p.a5))) )))  | 1 => (br (decide (p.a1 < 0)) (k5 true) (sel s1 6 fun j9 => (match j9 with | 0 => (k5 (decide (1000000 < p.a0)))  | 1 => (k5 (decide (1000000 < p.a1)))  | 2 => (k5 (decide (1000000 < p.a2)))  | 3 => (k5 (decide (1000000 < p.a3)))  | 4 => (k5 (decide (1000000 < p.a4)))  | _ => (k5 (decide (1000000 < p.a5))) )))  | 2 => (br (decide (p.a2 < 0)) (k5 true) (sel s1 6 fun j10 => (match j10 with | 0 => (k5 (decide (1000000 < p.a0)))  | 1 => (k5 (decide (1000000 < p.a1)))  | 2 => (k5 (decide (1000000 < p.a2)))  | 3 => (k5 (decide (1000000 < p.a3)))  | 4 => (k5 (decide (1000000 < p.a4)))  | _ => (k5 (decide (1000000 < p.a5))) )))  | 3 => (br (decide (p.a3 < 0)) (k5 true) (sel s1 6 fun j11 => (match j11 with | 0 => (k5 (decide (1000000 < p.a0)))  | 1 => (k5 (decide (1000000 < p.a1)))  | 2 => (k5 (decide (1000000 < p.a2)))  | 3 => (k5 (decide (1000000 < p.a3)))  | 4 => (k5 (decide (1000000 < p.a4)))  | _ => (k5 (decide (1000000 < p.a5))) )))  | 4 => (br (decide (p.a4 < 0)) (k5 true) (sel s1 6 fun j12 => (match j12 with | 0 => (k5 (decide (1000000 < p.a0)))  | 1 => (k5 (decide (1000000 < p.a1)))  | 2 => (k5 (decide (1000000 < p.a2)))  | 3 => (k5 (decide (1000000 < p.a3)))  | 4 => (k5 (decide (1000000 < p.a4)))  | _ => (k5 (decide (1000000 < p.a5))) )))  | _ => (br (decide (p.a5 < 0)) (k5 true) (sel s1 6 fun j13 => (match j13 with | 0 => (k5 (decide (1000000 < p.a0)))  | 1 => (k5 (decide (1000000 < p.a1)))  | 2 => (k5 (decide (1000000 < p.a2)))  | 3 => (k5 (decide (1000000 < p.a3)))  | 4 => (k5 (decide (1000000 < p.a4)))  | _ => (k5 (decide (1000000 < p.a5))) ))) ))
 (some true)
def r08_Whole (p : Arr6 Int) : Option Bool :=
 loopF (r08_Whole_l1 p) 0
def r08_Pay (p : Arr6 Int) (c : GCost) (x : Int) : Option ((Arr6 Int) × Int) :=
 jn (fun s1 : Bool =>
 br s1 (some (zArr6I, 1))
 (br (decide (p.a1 < c.color.a0)) (some (zArr6I, 12))
 (br (decide (p.a2 < c.color.a1)) (some (zArr6I, 12))
 (lt (addI (addI p.a0 (subI p.a1 c.color.a0)) (subI p.a2 c.color.a1)) fun v7 =>
 br (decide (p.a3 < c.color.a2)) (some (zArr6I, 12))
 (br (decide (p.a4 < c.color.a3)) (some (zArr6I, 12))
 (lt (addI (addI v7 (subI p.a3 c.color.a2)) (subI p.a4 c.color.a3)) fun v8 =>
 br (decide (p.a5 < c.color.a4)) (some (zArr6I, 12))
 (lt (decide ((addI v8 (subI p.a5 c.color.a4)) < (addI c.generic (mulI c.x x)))) fun v9 =>
 br v9 (some (zArr6I, 12))
 (lt (subI p.a0 (if p.a0 < (addI c.generic (mulI c.x x)) then p.a0 else (addI c.generic (mulI c.x x)))) fun v11 =>
 lt (subI (addI c.generic (mulI c.x x)) (if p.a0 < (addI c.generic (mulI c.x x)) then p.a0 else (addI c.generic (mulI c.x x)))) fun v12 =>
 lt (subI (subI p.a1 c.color.a0) (if (subI p.a1 c.color.a0) < v12 then (subI p.a1 c.color.a0) else v12)) fun v13 =>
 lt (subI v12 (if (subI p.a1 c.color.a0) < v12 then (subI p.a1 c.color.a0) else v12)) fun v14 =>
 lt (subI (subI p.a2 c.color.a1) (if (subI p.a2 c.color.a1) < v14 then (subI p.a2 c.color.a1) else v14)) fun v15 =>
 lt (subI v14 (if (subI p.a2 c.color.a1) < v14 then (subI p.a2 c.color.a1) else v14)) fun v16 =>
 lt (subI (subI p.a3 c.color.a2) (if (subI p.a3 c.color.a2) < v16 then (subI p.a3 c.color.a2) else v16)) fun v17 =>
 lt (subI v16 (if (subI p.a3 c.color.a2) < v16 then (subI p.a3 c.color.a2) else v16)) fun v18 =>
 lt (subI (subI p.a4 c.color.a3) (if (subI p.a4 c.color.a3) < v18 then (subI p.a4 c.color.a3) else v18)) fun v19 =>
 lt (subI v18 (if (subI p.a4 c.color.a3) < v18 then (subI p.a4 c.color.a3) else v18)) fun v20 =>
 lt (subI (subI p.a5 c.color.a4) (if (subI p.a5 c.color.a4) < v20 then (subI p.a5 c.color.a4) else v20)) fun v21 =>
 lt (subI v20 (if (subI p.a5 c.color.a4) < v20 then (subI p.a5 c.color.a4) else v20)) fun v22 =>
 some ((Arr6.mk v11 v13 v15 v17 v19 v21), 0))))))))) fun k2 =>
 bnd (r08_Is c) fun y4 =>
 br (y4 == false) (k2 true)
 (bnd (r08_Whole p) fun y5 =>
 br (y5 == false) (k2 true)
 (br (decide (x < 0)) (k2 true)
 (k2 (decide (1000000 < x)))))
def r08_CanPay (p : Arr6 Int) (c : GCost) (x : Int) : Option Bool :=
 bnd (r08_Pay p c x) fun y1 =>
 some (decide (y1.2 = 0))
def r39_MostX_l1 (p : Arr6 Int) (c : GCost) (s2 : Int × Int) (k3 : (Int × Int) → Option Int) : Option Int :=
 br (decide (s2.1 < s2.2)) (bnd (divO .quo .i64 (addI (addI s2.1 s2.2) 1) 2) fun x5 =>
 bnd (r08_CanPay p c x5) fun y6 =>
 br y6 (k3 (x5, s2.2))
 (k3 (s2.1, (subI x5 1))))
 (some s2.1)
def r39_MostX (p : Arr6 Int) (c : GCost) : Option Int :=
 bnd (r08_CanPay p c 0) fun y1 =>
 br (y1 == false) (some (-1))
 (br (decide (c.x = 0)) (some 0)
 (loopF (r39_MostX_l1 p c) (0, 1000000)))
def law39_CostMost (p : Arr6 Int) (c : GCost) : Option Bool :=
 bnd (law39_alive) fun y1 =>
 br y1 (bnd (cost_MostX p c) fun y2 =>
 bnd (r39_MostX p c) fun y3 =>
 some (decide (y2 = y3)))
 (some false)
def r03_Same_l1 (a : List Int) (b : List Int) (s1 : Int) (k2 : Int → Option Bool) : Option Bool :=
 br (decide (s1 < (lenI a))) (bnd (ixL a s1) fun x4 =>
 bnd (ixL b s1) fun x5 =>
 br (!decide (x4 = x5)) (some false)
 (k2 (addI s1 1)))
 (some true)
def r03_Same (a : List Int) (b : List Int) : Option Bool :=
 br (!decide ((lenI a) = (lenI b))) (some false)
 (loopF (r03_Same_l1 a b) 0)
def r26_SamePlayer (a : GPlayer) (b : GPlayer) : Option Bool :=
 jn (fun s1 : Bool =>
 br s1 (some false)
 (bnd (r03_Same a.library b.library) fun y5 =>
 br y5 (bnd (r03_Same a.hand b.hand) fun y6 =>
 br y6 (bnd (r03_Same a.graveyard b.graveyard) fun y7 =>
 some y7)
 (some false))
 (some false))) fun k2 =>
 br (!decide (a.life = b.life)) (k2 true)
 (br (!decide (a.venom = b.venom)) (k2 true)
 (br (!decide (a.lands = b.lands)) (k2 true)
 (lt ((decide (a.pool.a0 = b.pool.a0) && (decide (a.pool.a1 = b.pool.a1) && (decide (a.pool.a2 = b.pool.a2) && (decide (a.pool.a3 = b.pool.a3) && (decide (a.pool.a4 = b.pool.a4) && (decide (a.pool.a5 = b.pool.a5) && true)))))) == false) fun v4 =>
 br v4 (k2 true)
 (br ((a.failed == b.failed) == false) (k2 true)
 (k2 ((a.lost == b.lost) == false))))))
def r17_SameMods_l1 (a : List GMod) (b : List GMod) (s1 : Int) (k2 : Int → Option Bool) : Option Bool :=
 br (decide (s1 < (lenI a))) (bnd (ixL a s1) fun x4 =>
 bnd (ixL b s1) fun x5 =>
 lt ((decide (x4.kind = x5.kind) && (decide (x4.n = x5.n) && (decide (x4.m = x5.m) && (stdScmp .eql x4.sub x5.sub && (decide (x4.filter.zone = x5.filter.zone) && (decide (x4.filter.who = x5.filter.who) && (decide (x4.filter.self = x5.filter.self) && (decide (x4.filter.types = x5.filter.types) && (decide (x4.filter.notTypes = x5.filter.notTypes) && (decide (x4.filter.colors = x5.filter.colors) && (decide (x4.filter.notColors = x5.filter.notColors) && (stdScmp .eql x4.filter.sub x5.filter.sub && (decide (x4.filter.keys = x5.filter.keys) && (decide (x4.filter.tap = x5.filter.tap) && (decide (x4.filter.power.kind = x5.filter.power.kind) && (decide (x4.filter.power.n = x5.filter.power.n) && (decide (x4.filter.tough.kind = x5.filter.tough.kind) && (decide (x4.filter.tough.n = x5.filter.tough.n) && (decide (x4.filter.value.kind = x5.filter.value.kind) && (decide (x4.filter.value.n = x5.filter.value.n) && true)))))))))))))))))))) == false) fun v6 =>
 br v6 (some false)
 (k2 (addI s1 1)))
 (some true)
def r17_SameMods (a : List GMod) (b : List GMod) : Option Bool :=
 br (!decide ((lenI a) = (lenI b))) (some false)
 (loopF (r17_SameMods_l1 a b) 0)
def r17_Same (a : GEffect) (b : GEffect) : Option Bool :=
 br (decide (a.op = b.op)) (lt (decide (a.ref.kind = b.ref.kind) && (decide (a.ref.n = b.ref.n) && (decide (a.ref.filter.zone = b.ref.filter.zone) && (decide (a.ref.filter.who = b.ref.filter.who) && (decide (a.ref.filter.self = b.ref.filter.self) && (decide (a.ref.filter.types = b.ref.filter.types) && (decide (a.ref.filter.notTypes = b.ref.filter.notTypes) && (decide (a.ref.filter.colors = b.ref.filter.colors) && (decide (a.ref.filter.notColors = b.ref.filter.notColors) && (stdScmp .eql a.ref.filter.sub b.ref.filter.sub && (decide (a.ref.filter.keys = b.ref.filter.keys) && (decide (a.ref.filter.tap = b.ref.filter.tap) && (decide (a.ref.filter.power.kind = b.ref.filter.power.kind) && (decide (a.ref.filter.power.n = b.ref.filter.power.n) && (decide (a.ref.filter.tough.kind = b.ref.filter.tough.kind) && (decide (a.ref.filter.tough.n = b.ref.filter.tough.n) && (decide (a.ref.filter.value.kind = b.ref.filter.value.kind) && (decide (a.ref.filter.value.n = b.ref.filter.value.n) && true)))))))))))))))))) fun v1 =>
 br v1 (lt (decide (a.amount.kind = b.amount.kind) && (decide (a.amount.n = b.amount.n) && (decide (a.amount.counter = b.amount.counter) && (decide (a.amount.filter.zone = b.amount.filter.zone) && (decide (a.amount.filter.who = b.amount.filter.who) && (decide (a.amount.filter.self = b.amount.filter.self) && (decide (a.amount.filter.types = b.amount.filter.types) && (decide (a.amount.filter.notTypes = b.amount.filter.notTypes) && (decide (a.amount.filter.colors = b.amount.filter.colors) && (decide (a.amount.filter.notColors = b.amount.filter.notColors) && (stdScmp .eql a.amount.filter.sub b.amount.filter.sub && (decide (a.amount.filter.keys = b.amount.filter.keys) && (decide (a.amount.filter.tap = b.amount.filter.tap) && (decide (a.amount.filter.power.kind = b.amount.filter.power.kind) && (decide (a.amount.filter.power.n = b.amount.filter.power.n) && (decide (a.amount.filter.tough.kind = b.amount.filter.tough.kind) && (decide (a.amount.filter.tough.n = b.amount.filter.tough.n) && (decide (a.amount.filter.value.kind = b.amount.filter.value.kind) && (decide (a.amount.filter.value.n = b.amount.filter.value.n) && true))))))))))))))))))) fun v2 =>
 br v2 (br (decide (a.counter = b.counter)) (br (decide (a.zone = b.zone)) (br (stdScmp .eql a.card b.card) (lt (decide (a.filter.zone = b.filter.zone) && (decide (a.filter.who = b.filter.who) && (decide (a.filter.self = b.filter.self) && (decide (a.filter.types = b.filter.types) && (decide (a.filter.notTypes = b.filter.notTypes) && (decide (a.filter.colors = b.filter.colors) && (decide (a.filter.notColors = b.filter.notColors) && (stdScmp .eql a.filter.sub b.filter.sub && (decide (a.filter.keys = b.filter.keys) && (decide (a.filter.tap = b.filter.tap) && (decide (a.filter.power.kind = b.filter.power.kind) && (decide (a.filter.power.n = b.filter.power.n) && (decide (a.filter.tough.kind = b.filter.tough.kind) && (decide (a.filter.tough.n = b.filter.tough.n) && (decide (a.filter.value.kind = b.filter.value.kind) && (decide (a.filter.value.n = b.filter.value.n) && true)))))))))))))))) fun v3 =>
 br v3 (lt (decide (a.pool.a0 = b.pool.a0) && (decide (a.pool.a1 = b.pool.a1) && (decide (a.pool.a2 = b.pool.a2) && (decide (a.pool.a3 = b.pool.a3) && (decide (a.pool.a4 = b.pool.a4) && (decide (a.pool.a5 = b.pool.a5) && true)))))) fun v4 =>
 br v4 (bnd (r17_SameMods a.mods b.mods) fun y5 =>
 some y5)
 (some false))
 (some false))
 (some false))
 (some false))
 (some false))
 (some false))
 (some false))
 (some false)
def r17_SameList_l1 (a : List GEffect) (b : List GEffect) (s1 : Int) (k2 : Int → Option Bool) : Option Bool :=
 br (decide (s1 < (lenI a))) (bnd (ixL a s1) fun x4 =>
 bnd (ixL b s1) fun x5 =>
 bnd (r17_Same x4 x5) fun y6 =>
 br (y6 == false) (some false)
 (k2 (addI s1 1)))
 (some true)
def r17_SameList (a : List GEffect) (b : List GEffect) : Option Bool :=
 br (!decide ((lenI a) = (lenI b))) (some false)
 (loopF (r17_SameList_l1 a b) 0)
def r20_Same_l1 (a : GAbility) (b : GAbility) (s1 : Int) (k2 : Int → Option Bool) : Option Bool :=
 br (decide (s1 < (lenI a.specs))) (bnd (ixL a.specs s1) fun x4 =>
 bnd (ixL b.specs s1) fun x5 =>
 lt ((x4.player == x5.player && (x4.object == x5.object && (decide (x4.filter.zone = x5.filter.zone) && (decide (x4.filter.who = x5.filter.who) && (decide (x4.filter.self = x5.filter.self) && (decide (x4.filter.types = x5.filter.types) && (decide (x4.filter.notTypes = x5.filter.notTypes) && (decide (x4.filter.colors = x5.filter.colors) && (decide (x4.filter.notColors = x5.filter.notColors) && (stdScmp .eql x4.filter.sub x5.filter.sub && (decide (x4.filter.keys = x5.filter.keys) && (decide (x4.filter.tap = x5.filter.tap) && (decide (x4.filter.power.kind = x5.filter.power.kind) && (decide (x4.filter.power.n = x5.filter.power.n) && (decide (x4.filter.tough.kind = x5.filter.tough.kind) && (decide (x4.filter.tough.n = x5.filter.tough.n) && (decide (x4.filter.value.kind = x5.filter.value.kind) && (decide (x4.filter.value.n = x5.filter.value.n) && true)))))))))))))))))) == false) fun v6 =>
 br v6 (some false)
 (k2 (addI s1 1)))
 (br (decide (a.kind = b.kind)) (lt (decide (a.filter.zone = b.filter.zone) && (decide (a.filter.who = b.filter.who) && (decide (a.filter.self = b.filter.self) && (decide (a.filter.types = b.filter.types) && (decide (a.filter.notTypes = b.filter.notTypes) && (decide (a.filter.colors = b.filter.colors) && (decide (a.filter.notColors = b.filter.notColors) && (stdScmp .eql a.filter.sub b.filter.sub && (decide (a.filter.keys = b.filter.keys) && (decide (a.filter.tap = b.filter.tap) && (decide (a.filter.power.kind = b.filter.power.kind) && (decide (a.filter.power.n = b.filter.power.n) && (decide (a.filter.tough.kind = b.filter.tough.kind) && (decide (a.filter.tough.n = b.filter.tough.n) && (decide (a.filter.value.kind = b.filter.value.kind) && (decide (a.filter.value.n = b.filter.value.n) && true)))))))))))))))) fun v7 =>
 br v7 (bnd (r17_SameMods a.mods b.mods) fun y8 =>
 br y8 (lt (decide (a.price.mana.generic = b.price.mana.generic) && (decide (a.price.mana.x = b.price.mana.x) && (decide (a.price.mana.color.a0 = b.price.mana.color.a0) && (decide (a.price.mana.color.a1 = b.price.mana.color.a1) && (decide (a.price.mana.color.a2 = b.price.mana.color.a2) && (decide (a.price.mana.color.a3 = b.price.mana.color.a3) && (decide (a.price.mana.color.a4 = b.price.mana.color.a4) && (a.price.tap == b.price.tap && (a.price.sacrifice == b.price.sacrifice && (decide (a.price.life = b.price.life) && true)))))))))) fun v9 =>
 br v9 (br (a.slow == b.slow) (lt (decide (a.trigger.when = b.trigger.when) && (decide (a.trigger.who = b.trigger.who) && (decide (a.trigger.filter.zone = b.trigger.filter.zone) && (decide (a.trigger.filter.who = b.trigger.filter.who) && (decide (a.trigger.filter.self = b.trigger.filter.self) && (decide (a.trigger.filter.types = b.trigger.filter.types) && (decide (a.trigger.filter.notTypes = b.trigger.filter.notTypes) && (decide (a.trigger.filter.colors = b.trigger.filter.colors) && (decide (a.trigger.filter.notColors = b.trigger.filter.notColors) && (stdScmp .eql a.trigger.filter.sub b.trigger.filter.sub && (decide (a.trigger.filter.keys = b.trigger.filter.keys) && (decide (a.trigger.filter.tap = b.trigger.filter.tap) && (decide (a.trigger.filter.power.kind = b.trigger.filter.power.kind) && (decide (a.trigger.filter.power.n = b.trigger.filter.power.n) && (decide (a.trigger.filter.tough.kind = b.trigger.filter.tough.kind) && (decide (a.trigger.filter.tough.n = b.trigger.filter.tough.n) && (decide (a.trigger.filter.value.kind = b.trigger.filter.value.kind) && (decide (a.trigger.filter.value.n = b.trigger.filter.value.n) && true)))))))))))))))))) fun v10 =>
 br v10 (br (a.may == b.may) (bnd (r17_SameList a.effects b.effects) fun y11 =>
 br y11 (lt (decide (a.replace.on = b.replace.on) && (decide (a.replace.who = b.replace.who) && (decide (a.replace.filter.zone = b.replace.filter.zone) && (decide (a.replace.filter.who = b.replace.filter.who) && (decide (a.replace.filter.self = b.replace.filter.self) && (decide (a.replace.filter.types = b.replace.filter.types) && (decide (a.replace.filter.notTypes = b.replace.filter.notTypes) && (decide (a.replace.filter.colors = b.replace.filter.colors) && (decide (a.replace.filter.notColors = b.replace.filter.notColors) && (stdScmp .eql a.replace.filter.sub b.replace.filter.sub && (decide (a.replace.filter.keys = b.replace.filter.keys) && (decide (a.replace.filter.tap = b.replace.filter.tap) && (decide (a.replace.filter.power.kind = b.replace.filter.power.kind) && (decide (a.replace.filter.power.n = b.replace.filter.power.n) && (decide (a.replace.filter.tough.kind = b.replace.filter.tough.kind) && (decide (a.replace.filter.tough.n = b.replace.filter.tough.n) && (decide (a.replace.filter.value.kind = b.replace.filter.value.kind) && (decide (a.replace.filter.value.n = b.replace.filter.value.n) && (decide (a.replace.doF = b.replace.doF) && (decide (a.replace.n = b.replace.n) && (decide (a.replace.zone = b.replace.zone) && (decide (a.replace.counter = b.replace.counter) && true)))))))))))))))))))))) fun v12 =>
 some v12)
 (some false))
 (some false))
 (some false))
 (some false))
 (some false))
 (some false))
 (some false))
 (some false))
def r20_Same (a : GAbility) (b : GAbility) : Option Bool :=
 br (!decide ((lenI a.specs) = (lenI b.specs))) (some false)
 (loopF (r20_Same_l1 a b) 0)
def r26_SameItem_l1 (a : GItem) (b : GItem) (s1 : Int) (k2 : Int → Option Bool) : Option Bool :=
 br (decide (s1 < (lenI a.targets))) (bnd (ixL a.targets s1) fun x4 =>
 bnd (ixL b.targets s1) fun x5 =>
 lt ((decide (x4.object = x5.object) && (decide (x4.player = x5.player) && true)) == false) fun v6 =>
 br v6 (some false)
 (k2 (addI s1 1)))
 (br (decide (a.id = b.id)) (br (decide (a.kind = b.kind)) (br (decide (a.source = b.source)) (br (decide (a.control = b.control)) (br (decide (a.x = b.x)) (br (a.copy == b.copy) (bnd (r20_Same a.ability b.ability) fun y7 =>
 br y7 (lt (decide (a.event.kind = b.event.kind) && (decide (a.event.source = b.event.source) && (decide (a.event.object = b.event.object) && (decide (a.event.player = b.event.player) && (decide (a.event.amount = b.event.amount) && (decide (a.event.fromF = b.event.fromF) && (decide (a.event.to = b.event.to) && (decide (a.event.cause = b.event.cause) && (decide (a.event.counter = b.event.counter) && (decide (a.event.card = b.event.card) && (a.event.combat == b.event.combat && (a.event.tapped == b.event.tapped && (decide (a.event.extra.a0 = b.event.extra.a0) && (decide (a.event.extra.a1 = b.event.extra.a1) && (decide (a.event.extra.a2 = b.event.extra.a2) && true))))))))))))))) fun v8 =>
 some v8)
 (some false))
 (some false))
 (some false))
 (some false))
 (some false))
 (some false))
 (some false))
def r26_SameItem (a : GItem) (b : GItem) : Option Bool :=
 br (!decide ((lenI a.targets) = (lenI b.targets))) (some false)
 (loopF (r26_SameItem_l1 a b) 0)
def r26_SameWaiting (a : GWaiting) (b : GWaiting) : Option Bool :=
 br (decide (a.source = b.source)) (br (decide (a.control = b.control)) (bnd (r20_Same a.ability b.ability) fun y1 =>
 br y1 (lt (decide (a.event.kind = b.event.kind) && (decide (a.event.source = b.event.source) && (decide (a.event.object = b.event.object) && (decide (a.event.player = b.event.player) && (decide (a.event.amount = b.event.amount) && (decide (a.event.fromF = b.event.fromF) && (decide (a.event.to = b.event.to) && (decide (a.event.cause = b.event.cause) && (decide (a.event.counter = b.event.counter) && (decide (a.event.card = b.event.card) && (a.event.combat == b.event.combat && (a.event.tapped == b.event.tapped && (decide (a.event.extra.a0 = b.event.extra.a0) && (decide (a.event.extra.a1 = b.event.extra.a1) && (decide (a.event.extra.a2 = b.event.extra.a2) && true))))))))))))))) fun v2 =>
 some v2)
 (some false))
 (some false))
 (some false)
def r26_SameMods_l1 (a : List GMod) (b : List GMod) (s1 : Int) (k2 : Int → Option Bool) : Option Bool :=
 br (decide (s1 < (lenI a))) (bnd (ixL a s1) fun x4 =>
 bnd (ixL b s1) fun x5 =>
 lt ((decide (x4.kind = x5.kind) && (decide (x4.n = x5.n) && (decide (x4.m = x5.m) && (stdScmp .eql x4.sub x5.sub && (decide (x4.filter.zone = x5.filter.zone) && (decide (x4.filter.who = x5.filter.who) && (decide (x4.filter.self = x5.filter.self) && (decide (x4.filter.types = x5.filter.types) && (decide (x4.filter.notTypes = x5.filter.notTypes) && (decide (x4.filter.colors = x5.filter.colors) && (decide (x4.filter.notColors = x5.filter.notColors) && (stdScmp .eql x4.filter.sub x5.filter.sub && (decide (x4.filter.keys = x5.filter.keys) && (decide (x4.filter.tap = x5.filter.tap) && (decide (x4.filter.power.kind = x5.filter.power.kind) && (decide (x4.filter.power.n = x5.filter.power.n) && (decide (x4.filter.tough.kind = x5.filter.tough.kind) && (decide (x4.filter.tough.n = x5.filter.tough.n) && (decide (x4.filter.value.kind = x5.filter.value.kind) && (decide (x4.filter.value.n = x5.filter.value.n) && true)))))))))))))))))))) == false) fun v6 =>
 br v6 (some false)
 (k2 (addI s1 1)))
 (some true)
def r26_SameMods (a : List GMod) (b : List GMod) : Option Bool :=
 br (!decide ((lenI a) = (lenI b))) (some false)
 (loopF (r26_SameMods_l1 a b) 0)
def r26_SameCont (a : GCont) (b : GCont) : Option Bool :=
 br (decide (a.stamp = b.stamp)) (br (decide (a.control = b.control)) (br (decide (a.source = b.source)) (br (decide (a.untilF = b.untilF)) (bnd (r03_Same a.objects b.objects) fun y1 =>
 br y1 (bnd (r26_SameMods a.mods b.mods) fun y2 =>
 some y2)
 (some false))
 (some false))
 (some false))
 (some false))
 (some false)
def r26_lists_l1 (a : GState) (b : GState) (s28 : Int) (k29 : Int → Option Bool) : Option Bool :=
 br (decide (s28 < (lenI a.conts))) (bnd (ixL a.conts s28) fun x31 =>
 bnd (ixL b.conts s28) fun x32 =>
 bnd (r26_SameCont x31 x32) fun y33 =>
 br (y33 == false) (some false)
 (k29 (addI s28 1)))
 (some true)
def r26_lists_l2 (a : GState) (b : GState) (s22 : Int) (k23 : Int → Option Bool) : Option Bool :=
 br (decide (s22 < (lenI a.waiting))) (bnd (ixL a.waiting s22) fun x25 =>
 bnd (ixL b.waiting s22) fun x26 =>
 bnd (r26_SameWaiting x25 x26) fun y27 =>
 br (y27 == false) (some false)
 (k23 (addI s22 1)))
 (loopF (r26_lists_l1 a b) 0)
def r26_lists_l3 (a : GState) (b : GState) (s16 : Int) (k17 : Int → Option Bool) : Option Bool :=
 br (decide (s16 < (lenI a.stack))) (bnd (ixL a.stack s16) fun x19 =>
 bnd (ixL b.stack s16) fun x20 =>
 bnd (r26_SameItem x19 x20) fun y21 =>
 br (y21 == false) (some false)
 (k17 (addI s16 1)))
 (loopF (r26_lists_l2 a b) 0)
def r26_lists_l4 (a : GState) (b : GState) (s10 : Int) (k11 : Int → Option Bool) : Option Bool :=
 br (decide (s10 < (lenI a.objects))) (bnd (ixL a.objects s10) fun x13 =>
 bnd (ixL b.objects s10) fun x14 =>
 lt ((decide (x13.id = x14.id) && (decide (x13.card = x14.card) && (decide (x13.owner = x14.owner) && (decide (x13.control = x14.control) && (decide (x13.zone = x14.zone) && (x13.token == x14.token && (x13.tapped == x14.tapped && (x13.sick == x14.sick && (x13.deadly == x14.deadly && (decide (x13.damage = x14.damage) && (decide (x13.counters.a0 = x14.counters.a0) && (decide (x13.counters.a1 = x14.counters.a1) && (decide (x13.counters.a2 = x14.counters.a2) && (decide (x13.stamp = x14.stamp) && (decide (x13.copy = x14.copy) && (decide (x13.attack = x14.attack) && (x13.blocked == x14.blocked && (decide (x13.blocks = x14.blocks) && (decide (x13.shield = x14.shield) && true))))))))))))))))))) == false) fun v15 =>
 br v15 (some false)
 (k11 (addI s10 1)))
 (loopF (r26_lists_l3 a b) 0)
def r26_lists_l5 (a : GState) (b : GState) (s4 : Int) (k5 : Int → Option Bool) : Option Bool :=
 br (decide (s4 < (lenI a.players))) (bnd (ixL a.players s4) fun x7 =>
 bnd (ixL b.players s4) fun x8 =>
 bnd (r26_SamePlayer x7 x8) fun y9 =>
 br (y9 == false) (some false)
 (k5 (addI s4 1)))
 (loopF (r26_lists_l4 a b) 0)
def r26_lists (a : GState) (b : GState) : Option Bool :=
 jn (fun s1 : Bool =>
 br s1 (some false)
 (loopF (r26_lists_l5 a b) 0)) fun k2 =>
 br (!decide ((lenI a.players) = (lenI b.players))) (k2 true)
 (br (!decide ((lenI a.objects) = (lenI b.objects))) (k2 true)
 (br (!decide ((lenI a.stack) = (lenI b.stack))) (k2 true)
 (br (!decide ((lenI a.waiting) = (lenI b.waiting))) (k2 true)
 (k2 (!decide ((lenI a.conts) = (lenI b.conts)))))))
def r26_Same (a : GState) (b : GState) : Option Bool :=
 jn (fun s1 : Bool =>
 br s1 (some false)
 (bnd (r26_lists a b) fun y4 =>
 br y4 (bnd (r03_Same a.battlefield b.battlefield) fun y5 =>
 br y5 (bnd (r03_Same a.exile b.exile) fun y6 =>
 br y6 (bnd (r03_Same a.extra b.extra) fun y7 =>
 some y7)
 (some false))
 (some false))
 (some false))) fun k2 =>
 br (!decide (a.turn = b.turn)) (k2 true)
 (br (!decide (a.active = b.active)) (k2 true)
 (br (!decide (a.step = b.step)) (k2 true)
 (br ((a.begun == b.begun) == false) (k2 true)
 (br (!decide (a.priority = b.priority)) (k2 true)
 (br (!decide (a.passes = b.passes)) (k2 true)
 (br (!decide (a.nextId = b.nextId)) (k2 true)
 (br (!decide (a.nextStamp = b.nextStamp)) (k2 true)
 (br (!decide (a.seed = b.seed)) (k2 true)
 (br (!decide (a.over = b.over)) (k2 true)
 (k2 (!decide (a.winner = b.winner))))))))))))
def law39_total_l1 (p : Arr6 Int) (s1 : Int × Int) (k2 : (Int × Int) → Option Int) : Option Int :=
 br (decide (s1.2 < 6)) (jn (fun s4 : Int =>
 k2 ((addI s1.1 s4), (addI s1.2 1))) fun k5 =>
 sel s1.2 6 fun j7 => (match j7 with | 0 => (k5 p.a0)  | 1 => (k5 p.a1)  | 2 => (k5 p.a2)  | 3 => (k5 p.a3)  | 4 => (k5 p.a4)  | _ => (k5 p.a5) ))
 (some s1.1)
def law39_total (p : Arr6 Int) : Option Int :=
 loopF (law39_total_l1 p) (0, 0)
def law39_CostPays_l1 (p : Arr6 Int) (c : GCost) (y1 : GState) (y6 : GState × Int × Bool × GAskAsker) (s7 : Bool × (List GPlayer)) (x22 : GPlayer) (s30 : Int × Int) (k31 : (Int × Int) → Option Bool) : Option Bool :=
 br (decide (s30.2 < 5)) (jn (fun s33 : Int =>
 k31 ((addI s30.1 s33), (addI s30.2 1))) fun k34 =>
 sel s30.2 5 fun j36 => (match j36 with | 0 => (k34 c.color.a0)  | 1 => (k34 c.color.a1)  | 2 => (k34 c.color.a2)  | 3 => (k34 c.color.a3)  | _ => (k34 c.color.a4) ))
 (bnd (ixO y6.1.players.length 1) fun j37 =>
 bnd (y6.1.players[j37]?) fun x38 =>
 bnd (law39_alive) fun y39 =>
 br y39 (bnd (law39_total p) fun y40 =>
 bnd (law39_total x22.pool) fun y41 =>
 br (decide ((subI y40 y41) = s30.1)) (bnd (r26_Same { y1 with players := s7.2 } { y6.1 with players := (y6.1.players.set j37 { x38 with pool := p }), objects := y6.1.objects, battlefield := y6.1.battlefield, exile := y6.1.exile, stack := y6.1.stack, waiting := y6.1.waiting, conts := y6.1.conts, extra := y6.1.extra }) fun y42 =>
 some y42)
 (some false))
 (some false))
def law39_CostPays_l2 (p : Arr6 Int) (c : GCost) (y1 : GState) (y6 : GState × Int × Bool × GAskAsker) (s7 : Bool × (List GPlayer)) (x22 : GPlayer) (s23 : Int) (k24 : Int → Option Bool) : Option Bool :=
 br (decide (s23 < 6)) (jn (fun s26 : Bool =>
 br s26 (some false)
 (k24 (addI s23 1))) fun k27 =>
 sel s23 6 fun j29 => (match j29 with | 0 => (br (decide (x22.pool.a0 < 0)) (k27 true) (br (decide (p.a0 < x22.pool.a0)) (k27 true) (br (decide (0 < s23)) (none) (k27 false))))  | 1 => (br (decide (x22.pool.a1 < 0)) (k27 true) (br (decide (p.a1 < x22.pool.a1)) (k27 true) (br (decide (0 < s23)) (k27 (decide ((subI p.a1 c.color.a0) < x22.pool.a1))) (k27 false))))  | 2 => (br (decide (x22.pool.a2 < 0)) (k27 true) (br (decide (p.a2 < x22.pool.a2)) (k27 true) (br (decide (0 < s23)) (k27 (decide ((subI p.a2 c.color.a1) < x22.pool.a2))) (k27 false))))  | 3 => (br (decide (x22.pool.a3 < 0)) (k27 true) (br (decide (p.a3 < x22.pool.a3)) (k27 true) (br (decide (0 < s23)) (k27 (decide ((subI p.a3 c.color.a2) < x22.pool.a3))) (k27 false))))  | 4 => (br (decide (x22.pool.a4 < 0)) (k27 true) (br (decide (p.a4 < x22.pool.a4)) (k27 true) (br (decide (0 < s23)) (k27 (decide ((subI p.a4 c.color.a3) < x22.pool.a4))) (k27 false))))  | _ => (br (decide (x22.pool.a5 < 0)) (k27 true) (br (decide (p.a5 < x22.pool.a5)) (k27 true) (br (decide (0 < s23)) (k27 (decide ((subI p.a5 c.color.a4) < x22.pool.a5))) (k27 false)))) ))
 (loopF (law39_CostPays_l1 p c y1 y6 s7 x22) ((addI c.generic (mulI c.x y6.2.1)), 0))
def law39_CostPays (p : Arr6 Int) (c : GCost) (answer : Int) : Option Bool :=
 bnd (r26_New 2 0 1) fun y1 =>
 bnd (ixO y1.players.length 1) fun j2 =>
 bnd (y1.players[j2]?) fun x3 =>
 bnd (cost_MostX p c) fun y4 =>
 bnd (ask_New ([[answer]])) fun y5 =>
 bnd (cost_Mana { y5 with answers := y5.answers } { y1 with players := (y1.players.set j2 { x3 with pool := p }) } 1 0 c) fun y6 =>
 jn (fun s7 : Bool × (List GPlayer) =>
 br s7.1 (some false)
 (br (y6.2.2.1 == false) (jn (fun s11 : Bool =>
 some s11) fun k12 =>
 bnd (law39_alive) fun y14 =>
 br y14 (br (decide (y6.2.1 = 0)) (bnd (r26_Same { y1 with players := s7.2 } { y6.1 with players := y6.1.players, objects := y6.1.objects, battlefield := y6.1.battlefield, exile := y6.1.exile, stack := y6.1.stack, waiting := y6.1.waiting, conts := y6.1.conts, extra := y6.1.extra }) fun y15 =>
 k12 y15)
 (k12 false))
 (k12 false))
 (jn (fun s16 : Bool =>
 br s16 (some false)
 (bnd (ixO y6.1.players.length 1) fun j21 =>
 bnd (y6.1.players[j21]?) fun x22 =>
 loopF (law39_CostPays_l2 p c y1 y6 s7 x22) 0)) fun k17 =>
 br (decide (y6.2.1 < 0)) (k17 true)
 (br (decide (y4 < y6.2.1)) (k17 true)
 (bnd (r08_CanPay p c y4) fun y19 =>
 br (y19 == false) (k17 true)
 (br (decide (0 < c.x)) (br (decide (y4 < 1000000)) (bnd (r08_CanPay p c (addI y4 1)) fun y20 =>
 br y20 (k17 true)
 (br (decide (c.x = 0)) (k17 (!decide (y4 = 0)))
 (k17 false)))
 (br (decide (c.x = 0)) (k17 (!decide (y4 = 0)))
 (k17 false)))
 (br (decide (c.x = 0)) (k17 (!decide (y4 = 0)))
 (k17 false)))))))) fun k8 =>
 br ((y6.2.2.1 == (decide (0 ≤ y4))) == false) (k8 (true, (y1.players.set j2 { x3 with pool := p })))
 (bnd (r08_CanPay p c 0) fun y10 =>
 k8 (((y6.2.2.1 == y10) == false), (y1.players.set j2 { x3 with pool := p })))
theorem d_st {p : Prop} (h : p := by (try simp only [eGOption, eGChoice, eGAskAsker, eGCost, eGPlayer, eGObject, eGBound, eGFilter, eGMod, eGPrice, eGTrigger, eGSpec, eGRef, eGAmount, eGEffect, eGReplace, eGAbility, eGTarget, eGEvent, eGItem, eGWaiting, eGCont, eGState, zGOption, zGChoice, zGAskAsker, zGCost, zGPlayer, zGObject, zGBound, zGFilter, zGMod, zGPrice, zGTrigger, zGSpec, zGRef, zGAmount, zGEffect, zGReplace, zGAbility, zGTarget, zGEvent, zGItem, zGWaiting, zGCont, zGState, zArr2I, zArr3I, zArr5I, zArr6I, q]); repeat' constructor) : p := h
end Go.Proofs.Ytddcpnlflncahaa
