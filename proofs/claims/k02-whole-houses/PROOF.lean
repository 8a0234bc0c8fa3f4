import PyProof.Rows.All
import Wide.All
import OpenK.AllK
import Wide.FinOn
import HandS.Defaults
import HandS.Property
import HandS.More
import HandS.Words
import HandS.Head0
import HandS.Head1
import HandS.Head2
import HandS.Head3
import HandS.HeadEnd
import HandS.HeadHook1
import HandS.HeadHook2
import HandS.ForMost
import HandS.Zip
import HandS.Wide
import HandS.Gcd
import HandS.IsInst
import HandS.OwnEq
import HandS.Evl
import HandS.Walk
import KE.KOpsOwn
import HandS.Style
import HandS.DictComp
import HandS.Ends
import PyProof.ReprRoads
import PySem.Challenge.RW_tracewords_k02_whole_houses_of_blocks
set_option Elab.async false
set_option linter.all false
set_option maxRecDepth 100000
set_option maxHeartbeats 0
/-! The head: what the top leaves, read off its heap's tree. -/
namespace TH
open PySem PySem.Spec PyProof.Rows L2
def topH (i : Nat) : Stmt := PySem.Challenge.pw_tracewords_k02_whole_houses_of_blocks.main.body.getD i (.Pass ⟨0, 0, 0, 0⟩)
abbrev CQ : Addr := 438
abbrev CH : Addr := 671
/-- what a name stands for -/
inductive Tg where
  | ref (a : Addr) | bi (s : String) | int (i : Int) | oth
  deriving DecidableEq
def tgOf : Value → Tg
  | .ref a => .ref a
  | .builtin s => .bi s
  | .int i _ => .int i
  | _ => .oth
def keyOf : Value → Option (List Nat)
  | .str s _ => some s.cps.toList
  | _ => none
def entOf (e : DictEntry) : Option (List Nat) × Tg := (keyOf e.key, tgOf e.val)
/-- a dict's entries in their order -/
def entsAt (g : Addr → Option Obj) (d : Addr) : Option (List (Option (List Nat) × Tg)) := match g d with
  | some ⟨_, _, .dict es _, _⟩ => some (es.toList.map entOf)
  | _ => none
/-- no entry has one of these keys, all keys are texts -/
def lackAt (g : Addr → Option Obj) (d : Addr) (bad : List (List Nat)) : Bool := match g d with
  | some ⟨_, _, .dict es _, _⟩ => es.toList.all fun e => match keyOf e.key with
    | some k => !(bad.any fun b => b == k)
    | none => false
  | _ => false
def codeAt (g : Addr → Option Obj) (cd : Value) (q : Str) : Bool := match cd with
  | .ref c => (match g c with
    | some ⟨_, _, .fields vs, _⟩ => (match vs.toList with | _ :: .str n _ :: _ => n == q | _ => false)
    | _ => false)
  | _ => false
abbrev FnR : Type := Option (Str × Str × Arguments × FuncBody × Scope × Addr × List (Str × Addr) × Addr × Value × Value × Bool)
def fnAt (g : Addr → Option Obj) (a : Addr) : FnR := match g a with
  | some ⟨_, _, .func fd, _⟩ => some (fd.name, fd.qualname, fd.params, fd.body, fd.scope, fd.globals, fd.closure, fd.builtins, fd.defaults, fd.code, codeAt g fd.code fd.qualname)
  | _ => none
/-- a def: its address, names, text, defaults -/
structure FnE where
  at_ : Addr
  cd : Addr
  name : Str
  qual : Str
  st : Stmt
  dfl : Value := .none
def FnE.val (e : FnE) : FnR := some (e.name, e.qual, defArgs e.st, .stmts (defBody e.st), defScope e.st, mainGlobals, [], builtinsNs, e.dfl, .ref e.cd, true)
def gl0 : List (Option (List Nat) × Tg) := [(some [95, 95, 110, 97, 109, 101, 95, 95], .oth), (some [95, 95, 100, 111, 99, 95, 95], .oth), (some [95, 95, 112, 97, 99, 107, 97, 103, 101, 95, 95], .oth), (some [95, 95, 108, 111, 97, 100, 101, 114, 95, 95], .bi "__main__.__loader__#opaque"), (some [95, 95, 115, 112, 101, 99, 95, 95], .oth), (some [95, 95, 97, 110, 110, 111, 116, 97, 116, 105, 111, 110, 115, 95, 95], .ref 6), (some [95, 95, 98, 117, 105, 108, 116, 105, 110, 115, 95, 95], .ref 4), (some [95, 95, 102, 105, 108, 101, 95, 95], .oth), (some [95, 95, 99, 97, 99, 104, 101, 100, 95, 95], .oth), (some [103, 99, 100], .bi "math.gcd"), (some [108, 99, 109], .bi "math.lcm"), (some [95, 119, 97, 108, 108], .ref 49), (some [84, 97, 98, 108, 101, 69, 114, 114, 111, 114], .ref 59), (some [83, 116, 97, 116, 101, 69, 114, 114, 111, 114], .ref 72), (some [76, 105, 109, 105, 116, 69, 114, 114, 111, 114], .ref 85), (some [73, 110, 118, 97, 108, 105, 100, 72, 111, 117, 115, 101], .ref 105), (some [73, 110, 118, 97, 108, 105, 100, 78, 117, 109, 98, 101, 114], .ref 124), (some [73, 110, 118, 97, 108, 105, 100, 82, 111, 111, 109], .ref 143), (some [73, 110, 118, 97, 108, 105, 100, 87, 111, 114, 100], .ref 162), (some [68, 105, 118, 105, 100, 101, 100, 66, 121, 90, 101, 114, 111], .ref 174), (some [73, 110, 118, 97, 108, 105, 100, 76, 101, 116, 116, 101, 114, 115], .ref 193), (some [78, 111, 116, 80, 97, 114, 116, 101, 100], .ref 205), (some [85, 110, 108, 105, 107, 101, 76, 101, 116, 116, 101, 114, 115], .ref 217), (some [84, 111, 111, 77, 97, 110, 121], .ref 236), (some [105, 115, 95, 105, 110, 116, 101, 103, 101, 114], .ref 245)]
def gl1 : List (Option (List Nat) × Tg) := [(some [105, 115, 95, 99, 111, 117, 110, 116], .ref 252), (some [105, 115, 95, 108, 105, 115, 116], .ref 259), (some [119, 97, 110, 116, 95, 97, 116, 95, 109, 111, 115, 116], .ref 266), (some [80, 65, 82, 84], .int 1000000000000000000000000000000000000000000000000000000000000), (some [100, 105, 103, 105, 116, 115, 95, 111, 102], .ref 273), (some [100, 105, 118, 105, 115, 111, 114, 95, 111, 102], .ref 280), (some [82, 97, 116, 105, 111], .ref 438), (some [116, 111, 108, 100, 95, 112, 97, 105, 114], .ref 449), (some [105, 115, 95, 110, 117, 109, 98, 101, 114], .ref 456), (some [114, 97, 116, 105, 111, 95, 111, 102], .ref 463), (some [119, 104, 111, 108, 101, 115], .ref 468), (some [116, 111, 116, 97, 108, 95, 111, 102], .ref 475), (some [105, 110, 116, 115, 95, 111, 102], .ref 480), (some [98, 97, 114, 101, 95, 114, 111, 119], .ref 485), (some [99, 108, 101, 97, 114, 101, 100], .ref 490), (some [102, 105, 114, 115, 116, 95, 97, 116], .ref 497), (some [104, 101, 97, 100, 101, 100, 95, 114, 111, 119], .ref 502), (some [105, 110, 116, 95, 115, 116, 101, 112, 115], .ref 507), (some [104, 101, 97, 100, 95, 111, 102], .ref 514), (some [116, 111, 108, 100, 95, 114, 111, 119, 115], .ref 519), (some [115, 116, 101, 112, 115, 95, 111, 102], .ref 526), (some [107, 101, 114, 110, 101, 108, 95, 111, 102], .ref 531), (some [115, 111, 108, 117, 116, 105, 111, 110, 95, 111, 102], .ref 536), (some [97, 114, 101, 95, 110, 117, 109, 98, 101, 114, 115], .ref 541), (some [77, 79, 83, 84, 95, 83, 73, 90, 69, 95, 116, 97, 98, 108, 101, 115], .int 4)]
def gl2 : List (Option (List Nat) × Tg) := [(some [116, 97, 98, 108, 101, 95, 105, 110], .ref 546), (some [98, 97, 114, 101, 95, 116, 97, 98, 108, 101], .ref 551), (some [105, 110, 116, 95, 112, 114, 111, 100, 117, 99, 116], .ref 556), (some [111, 118, 101, 114, 95, 98, 111, 116, 116, 111, 109], .ref 561), (some [105, 100, 108, 101, 95, 111, 102], .ref 566), (some [112, 114, 111, 100, 117, 99, 116, 95, 111, 102], .ref 573), (some [109, 105, 120, 101, 100, 95, 111, 102], .ref 578), (some [97, 98, 111, 117, 116, 95, 111, 102], .ref 583), (some [108, 101, 100, 95, 98, 121], .ref 590), (some [108, 111, 110, 103, 95, 111, 102], .ref 597), (some [115, 104, 111, 114, 116, 95, 111, 102], .ref 602), (some [77, 79, 83, 84, 95, 76, 69, 84, 84, 69, 82, 83], .int 3), (some [77, 79, 83, 84, 95, 87, 79, 82, 68], .int 16), (some [77, 79, 83, 84, 95, 83, 73, 90, 69, 95, 104, 111, 117, 115, 101, 115], .int 4), (some [108, 101, 116, 116, 101, 114, 115, 95, 105, 110], .ref 607), (some [72, 111, 117, 115, 101], .ref 671), (some [119, 97, 110, 116, 95, 104, 111, 117, 115, 101], .ref 682), (some [104, 111, 117, 115, 101, 95, 111, 102], .ref 689), (some [119, 111, 114, 100, 95, 105, 110], .ref 694), (some [119, 97, 110, 116, 95, 119, 111, 114, 100], .ref 701), (some [119, 111, 114, 100, 95, 116, 97, 98, 108, 101], .ref 708), (some [119, 97, 110, 116, 95, 112, 97, 105, 114], .ref 715), (some [111, 110, 95, 108, 105, 110, 101], .ref 720), (some [115, 105, 100, 101], .ref 725), (some [108, 111, 110, 103, 95, 105, 110, 116, 115], .ref 732)]
def gl3 : List (Option (List Nat) × Tg) := [(some [108, 101, 102, 116, 95, 111, 102], .ref 739), (some [108, 111, 110, 103, 95, 119, 105, 116, 104], .ref 746), (some [98, 97, 115, 101, 95, 119, 105, 116, 104], .ref 751), (some [98, 97, 115, 101, 95, 111, 102], .ref 756), (some [105, 110, 116, 95, 108, 111, 116], .ref 761), (some [100, 105, 109, 101, 110, 115, 105, 111, 110], .ref 768), (some [101, 118, 101, 114, 121, 95, 116, 97, 98, 108, 101], .ref 775), (some [108, 101, 97, 100, 95, 114, 111, 119, 115], .ref 782), (some [108, 101, 97, 100, 115, 95, 111, 102], .ref 787), (some [99, 111, 109, 109, 117, 116, 105, 110, 103, 95, 111, 102], .ref 794), (some [97, 112, 97, 114, 116, 95, 111, 102], .ref 801), (some [109, 105, 120, 101, 100, 95, 114, 111, 119], .ref 806), (some [109, 105, 100, 100, 108, 101, 95, 111, 102], .ref 811), (some [99, 111, 109, 109, 117, 116, 105, 110, 103], .ref 818), (some [109, 105, 100, 100, 108, 101], .ref 825), (some [77, 79, 83, 84, 95, 82, 79, 87, 83], .int 40), (some [104, 101, 97, 100, 115, 95, 111, 102], .ref 830), (some [110, 117, 109, 98, 101, 114, 115, 95, 105, 110], .ref 835), (some [108, 101, 115, 115, 95, 114, 111, 111, 109], .ref 840), (some [104, 101, 108, 100], .ref 845), (some [102, 105, 114, 115, 116, 95, 111, 117, 116], .ref 852), (some [105, 115, 95, 107, 101, 112, 116], .ref 859), (some [114, 111, 119, 115, 95, 105, 110], .ref 864), (some [114, 111, 111, 109, 95, 105, 110], .ref 871), (some [119, 97, 110, 116, 95, 107, 101, 112, 116], .ref 878)]
def gl4 : List (Option (List Nat) × Tg) := [(some [99, 117, 116, 95, 111, 102], .ref 883), (some [104, 101, 108, 100, 95, 114, 111, 119, 115], .ref 890), (some [101, 118, 101, 110, 95, 114, 111, 119, 115], .ref 897), (some [111, 110, 116, 111, 95, 111, 102], .ref 902), (some [112, 97, 114, 116, 110, 101, 114, 95, 111, 102], .ref 909), (some [112, 97, 114, 116, 110, 101, 114], .ref 916), (some [115, 117, 109, 95, 111, 102, 95, 116, 119, 111], .ref 921), (some [115, 117, 109, 115, 95, 111, 102], .ref 926), (some [114, 97, 110, 107, 95, 111, 102], .ref 933), (some [112, 97, 114, 116, 115, 95, 111, 102], .ref 940), (some [112, 97, 114, 116, 115], .ref 947), (some [99, 111, 117, 110, 116, 115], .ref 954), (some [95, 108, 97, 119, 95, 112, 111, 116], .ref 961), (some [95, 108, 97, 119, 95, 100, 114, 97, 119], .ref 968), (some [95, 108, 97, 119, 95, 112, 105, 99, 107], .ref 975), (some [95, 108, 97, 119, 95, 107, 110, 111, 119, 110], .ref 982), (some [95, 108, 97, 119, 95, 107, 105, 110, 100, 115], .ref 989), (some [95, 108, 97, 119, 95, 98, 101, 115, 105, 100, 101], .ref 994), (some [95, 108, 97, 119, 95, 99, 104, 97, 110, 103, 101, 100], .ref 999), (some [95, 108, 97, 119, 95, 108, 101, 116, 116, 101, 114, 115], .ref 1004), (some [95, 108, 97, 119, 95, 114, 105, 103, 104, 116], .ref 1011), (some [108, 97, 119], .ref 1018)]
def gl : List (Option (List Nat) × Tg) := gl0 ++ gl1 ++ gl2 ++ gl3 ++ gl4
def fs0 : List FnE := [⟨280, 279, "divisor_of", "divisor_of", (topH 23), .none⟩, ⟨485, 484, "bare_row", "bare_row", (topH 32), .none⟩, ⟨536, 535, "solution_of", "solution_of", (topH 41), .none⟩, ⟨890, 889, "held_rows", "held_rows", (topH 102), .none⟩, ⟨897, 896, "even_rows", "even_rows", (topH 103), .none⟩, ⟨583, 582, "about_of", "about_of", (topH 52), .none⟩, ⟨902, 901, "onto_of", "onto_of", (topH 104), .none⟩, ⟨909, 908, "partner_of", "partner_of", (topH 105), .none⟩, ⟨916, 915, "partner", "partner", (topH 106), .none⟩, ⟨921, 920, "sum_of_two", "sum_of_two", (topH 108), .none⟩, ⟨926, 925, "sums_of", "sums_of", (topH 109), .none⟩, ⟨933, 932, "rank_of", "rank_of", (topH 110), .none⟩, ⟨940, 939, "parts_of", "parts_of", (topH 111), .none⟩, ⟨947, 946, "parts", "parts", (topH 112), .none⟩, ⟨954, 953, "counts", "counts", (topH 113), .none⟩, ⟨245, 244, "is_integer", "is_integer", (topH 16), .none⟩, ⟨259, 258, "is_list", "is_list", (topH 18), .none⟩, ⟨266, 265, "want_at_most", "want_at_most", (topH 19), .none⟩, ⟨449, 448, "told_pair", "told_pair", (topH 25), .none⟩, ⟨456, 455, "is_number", "is_number", (topH 26), .none⟩]
def fs1 : List FnE := [⟨295, 294, "__init__", "Ratio.__init__", (inClass (topH 24) 0), .ref 288⟩, ⟨302, 301, "top", "Ratio.top", (inClass (topH 24) 1), .none⟩, ⟨318, 317, "sign", "Ratio.sign", (inClass (topH 24) 3), .none⟩, ⟨344, 343, "__add__", "Ratio.__add__", (inClass (topH 24) 6), .none⟩, ⟨358, 357, "__sub__", "Ratio.__sub__", (inClass (topH 24) 8), .none⟩, ⟨372, 371, "__mul__", "Ratio.__mul__", (inClass (topH 24) 10), .none⟩, ⟨386, 385, "__neg__", "Ratio.__neg__", (inClass (topH 24) 12), .none⟩, ⟨421, 420, "__eq__", "Ratio.__eq__", (inClass (topH 24) 17), .none⟩, ⟨463, 462, "ratio_of", "ratio_of", (topH 27), .none⟩, ⟨468, 467, "wholes", "wholes", (topH 28), .none⟩, ⟨475, 474, "total_of", "total_of", (topH 29), .none⟩, ⟨480, 479, "ints_of", "ints_of", (topH 31), .none⟩, ⟨490, 489, "cleared", "cleared", (topH 33), .none⟩, ⟨497, 496, "first_at", "first_at", (topH 34), .none⟩, ⟨502, 501, "headed_row", "headed_row", (topH 35), .none⟩, ⟨514, 513, "head_of", "head_of", (topH 37), .none⟩, ⟨519, 518, "told_rows", "told_rows", (topH 38), .none⟩, ⟨541, 540, "are_numbers", "are_numbers", (topH 42), .none⟩, ⟨507, 506, "int_steps", "int_steps", (topH 36), .none⟩, ⟨526, 525, "steps_of", "steps_of", (topH 39), .none⟩]
def fs2 : List FnE := [⟨531, 530, "kernel_of", "kernel_of", (topH 40), .none⟩, ⟨546, 545, "table_in", "table_in", (topH 45), .none⟩, ⟨551, 550, "bare_table", "bare_table", (topH 46), .none⟩, ⟨556, 555, "int_product", "int_product", (topH 47), .none⟩, ⟨561, 560, "over_bottom", "over_bottom", (topH 48), .none⟩, ⟨566, 565, "idle_of", "idle_of", (topH 49), .none⟩, ⟨573, 572, "product_of", "product_of", (topH 50), .none⟩, ⟨578, 577, "mixed_of", "mixed_of", (topH 51), .none⟩, ⟨590, 589, "led_by", "led_by", (topH 53), .none⟩, ⟨597, 596, "long_of", "long_of", (topH 54), .none⟩, ⟨602, 601, "short_of", "short_of", (topH 55), .none⟩, ⟨607, 606, "letters_in", "letters_in", (topH 60), .none⟩, ⟨621, 620, "__init__", "House.__init__", (inClass (topH 61) 0), .none⟩, ⟨682, 681, "want_house", "want_house", (topH 62), .none⟩, ⟨689, 688, "house_of", "house_of", (topH 63), .none⟩, ⟨715, 714, "want_pair", "want_pair", (topH 67), .none⟩, ⟨720, 719, "on_line", "on_line", (topH 68), .none⟩, ⟨725, 724, "side", "side", (topH 69), .none⟩, ⟨732, 731, "long_ints", "long_ints", (topH 71), .none⟩, ⟨739, 738, "left_of", "left_of", (topH 72), .none⟩]
def fs3 : List FnE := [⟨746, 745, "long_with", "long_with", (topH 73), .none⟩, ⟨751, 750, "base_with", "base_with", (topH 74), .none⟩, ⟨756, 755, "base_of", "base_of", (topH 75), .none⟩, ⟨761, 760, "int_lot", "int_lot", (topH 76), .none⟩, ⟨768, 767, "dimension", "dimension", (topH 77), .none⟩, ⟨775, 774, "every_table", "every_table", (topH 78), .none⟩, ⟨782, 781, "lead_rows", "lead_rows", (topH 80), .none⟩, ⟨787, 786, "leads_of", "leads_of", (topH 81), .none⟩, ⟨794, 793, "commuting_of", "commuting_of", (topH 82), .none⟩, ⟨801, 800, "apart_of", "apart_of", (topH 83), .none⟩, ⟨806, 805, "mixed_row", "mixed_row", (topH 84), .none⟩, ⟨811, 810, "middle_of", "middle_of", (topH 85), .none⟩, ⟨818, 817, "commuting", "commuting", (topH 86), .none⟩, ⟨825, 824, "middle", "middle", (topH 87), .none⟩, ⟨830, 829, "heads_of", "heads_of", (topH 90), .none⟩, ⟨835, 834, "numbers_in", "numbers_in", (topH 91), .none⟩, ⟨840, 839, "less_room", "less_room", (topH 92), .none⟩, ⟨845, 844, "held", "held", (topH 93), .none⟩, ⟨852, 851, "first_out", "first_out", (topH 94), .none⟩, ⟨859, 858, "is_kept", "is_kept", (topH 95), .none⟩]
def fs4 : List FnE := [⟨864, 863, "rows_in", "rows_in", (topH 96), .none⟩, ⟨871, 870, "room_in", "room_in", (topH 97), .none⟩, ⟨878, 877, "want_kept", "want_kept", (topH 98), .none⟩, ⟨883, 882, "cut_of", "cut_of", (topH 100), .none⟩, ⟨982, 981, "_law_known", "_law_known", (topH 118), .none⟩, ⟨994, 993, "_law_beside", "_law_beside", (topH 120), .none⟩, ⟨999, 998, "_law_changed", "_law_changed", (topH 121), .none⟩, ⟨968, 967, "_law_draw", "_law_draw", (topH 116), .none⟩, ⟨975, 974, "_law_pick", "_law_pick", (topH 117), .none⟩, ⟨961, 960, "_law_pot", "_law_pot", (topH 115), .none⟩, ⟨989, 988, "_law_kinds", "_law_kinds", (topH 119), .none⟩, ⟨1004, 1003, "_law_letters", "_law_letters", (topH 122), .none⟩, ⟨1011, 1010, "_law_right", "_law_right", (topH 123), .none⟩, ⟨1018, 1017, "law", "law", (topH 124), .none⟩]
def fs : List FnE := fs0 ++ fs1 ++ fs2 ++ fs3 ++ fs4
def lits : List Addr := [3, 2, 1, 4, 438, 437, 671, 670, 303, 319, 288] ++ fs.map (·.at_) ++ fs.map (·.cd)
def tyB (K : PySem.W.Frag) (C : Addr) : Bool := PySem.W.findIn K (.ref C) "__class__" == some (some (.builtin "object.__class__")) && PySem.W.mroIn K C (.type "object") == some true
def clB (K : PySem.W.Frag) (C : Addr) : Bool := PySem.W.plainGet K C Str.empty && (PySem.W.hasDictIn K C && (PySem.W.plainOver K C && PySem.W.findIn K (.ref C) "__setattr__" == some (some (.builtin "object.__setattr__"))))
def naB (K : PySem.W.Frag) (C : Addr) (f : Str) : Bool := PySem.W.findIn K (.ref C) f == some none
def mkB (K : PySem.W.Frag) (C f : Addr) : Bool := PySem.W.makesIn K C && (PySem.W.findIn K (.ref C) "__init__" == some (some (.ref f)) && (PySem.W.isFn K (.ref f) && PySem.W.keepIn K (.ref C)))
def prB (K : PySem.W.Frag) (C : Addr) (f : Str) (p g : Addr) : Bool := PySem.W.findIn K (.ref C) f == some (some (.ref p)) && (PySem.W.specialIn K (.ref p) "__get__" == some (some (.builtin "property.__get__")) && (PySem.W.takesIn K (.ref p) == some true && (match PySem.W.recIn K p "property" with
  | some (.ref h :: _) => h == g
  | _ => false)))
def meB (K : PySem.W.Frag) (C : Addr) (m : Str) (f : Addr) : Bool := PySem.W.findIn K (.ref C) m == some (some (.ref f)) && PySem.W.isFn K (.ref f)
def modB (K : PySem.W.Frag) : Bool := match K.lookup 4 with
  | some ⟨.type n, some d, _, _⟩ => n == "module" && d == builtinsNs
  | _ => false
def okB (K : PySem.W.Frag) : List Bool := [clB K CQ, clB K CH, naB K CQ "own_top", naB K CQ "own_bottom", naB K CH "own_letters", naB K CH "own_width", PySem.W.selfFirst K CQ, tyB K CQ, tyB K CH,
  PySem.W.kitOne K (.ref CQ) (.type "int") == some false, PySem.W.kitOne K (.type "int") (.ref CQ) == some false, mkB K CQ 295, mkB K CH 621, prB K CQ "top" 303 302, prB K CQ "sign" 319 318,
  meB K CQ "__add__" 344, meB K CQ "__sub__" 358, meB K CQ "__mul__" 372, meB K CQ "__neg__" 386, meB K CQ "__eq__" 421, He.dflB K (.ref 288) [.int 1], modB K]
abbrev Al : Type := Option (List (Option (List Nat) × Tg)) × Bool × Bool × List FnR × List Bool
def obsOf (g : Addr → Option Obj) : Al := (entsAt g mainGlobals, lackAt g cStatics [[115, 121, 115, 46, 97, 117, 100, 105, 116, 45, 104, 111, 111, 107, 115], [115, 121, 115, 46, 100, 105, 99, 116]], lackAt g sysModules [[95, 112, 121, 108, 111, 110, 103]], fs.map (fun e => fnAt g e.at_), okB (He.frG g lits))
def valOf : Al := (some gl, true, true, fs.map FnE.val, List.replicate 22 true)
def hook : PySem.W.Hook where
  α := Al
  obs := fun s => obsOf s.heap.get?
  val := fun _ => valOf
  says := fun _ h => ∃ g : Addr → Option Obj, (∀ a o, g a = some o → h.get? a = some o) ∧ obsOf g = valOf
  of := fun _ _ e => ⟨_, fun _ _ z => z, e⟩
  keeps := fun _ _ _ ⟨g, hg, c⟩ k => ⟨g, fun a o z => k _ _ (hg a o z), c⟩
def ob (s : PySem.W.SharedT) : Al := obsOf (HandSHeadRun.getT s)
theorem ob_eq (s : PySem.W.SharedT) : ob s = hook.obs s.abs := by
  have e : HandSHeadRun.getT s = s.abs.heap.get? := funext (HandSHeadRun.getT_eq s)
  show obsOf (HandSHeadRun.getT s) = obsOf s.abs.heap.get?
  rw [e]
def lo0 : List Str := ["gcd", "lcm", "_wall", "TableError", "StateError", "LimitError", "InvalidHouse", "InvalidNumber", "InvalidRoom", "InvalidWord", "DividedByZero", "InvalidLetters", "NotParted", "UnlikeLetters", "TooMany", "is_integer", "is_count", "is_list", "want_at_most", "PART", "digits_of", "divisor_of", "Ratio", "told_pair", "is_number", "ratio_of", "wholes", "total_of", "ints_of", "bare_row"]
def lo1 : List Str := ["cleared", "first_at", "headed_row", "int_steps", "head_of", "told_rows", "steps_of", "kernel_of", "solution_of", "are_numbers", "MOST_SIZE_tables", "table_in", "bare_table", "int_product", "over_bottom", "idle_of", "product_of", "mixed_of", "about_of", "led_by", "long_of", "short_of", "MOST_LETTERS", "MOST_WORD", "MOST_SIZE_houses", "letters_in", "House", "want_house", "house_of", "word_in"]
def lo2 : List Str := ["want_word", "word_table", "want_pair", "on_line", "side", "long_ints", "left_of", "long_with", "base_with", "base_of", "int_lot", "dimension", "every_table", "lead_rows", "leads_of", "commuting_of", "apart_of", "mixed_row", "middle_of", "commuting", "middle", "MOST_ROWS", "heads_of", "numbers_in", "less_room", "held", "first_out", "is_kept", "rows_in", "room_in"]
def lo3 : List Str := ["want_kept", "cut_of", "held_rows", "even_rows", "onto_of", "partner_of", "partner", "sum_of_two", "sums_of", "rank_of", "parts_of", "parts", "counts", "_law_pot", "_law_draw", "_law_pick", "_law_known", "_law_kinds", "_law_beside", "_law_changed", "_law_letters", "_law_right"]
def lo : List Str := lo0 ++ lo1 ++ lo2 ++ lo3
abbrev R : PySem.W.OpenRow := PySem.W.OpenLaw.row PySem.Challenge.rw_tracewords_k02_whole_houses_of_blocks
theorem run (w : World) : HandSHeadRun.RunEqI R (PySem.W.view R.prog [124]) hook ob 8000 lo w := by
  unfold HandSHeadRun.RunEqI
  kernel_rfl
end TH
set_option Elab.async false
set_option linter.all false
set_option maxRecDepth 100000
set_option maxHeartbeats 4000000
/-! A typed layer over the hand layer: values told by Lean values. G, the ghost heap: what never changes any more. -/
namespace TW
open PySem PySem.Spec PyProof.Rows L2

/-! ### growth -/
structure Step (G H G' H' : Hp) : Prop where
  g : Same G G'
  s : Same G' H'
  h : Same H H'
  f : ∀ b, H b ≠ none → G b = none → G' b = none
theorem Step.refl {G H : Hp} (s : Same G H) : Step G H G H := ⟨Same.refl _, s, Same.refl _, fun _ _ h => h⟩
theorem same_some {H H' : Hp} (s : Same H H') {b : Addr} (h : H b ≠ none) : H' b ≠ none := by
  intro e
  exact h (s.free e)
theorem Step.trans {G H G1 H1 G2 H2 : Hp} (a : Step G H G1 H1) (b : Step G1 H1 G2 H2) : Step G H G2 H2 :=
  ⟨a.g.trans b.g, b.s, a.h.trans b.h, fun c h1 h2 => b.f c (same_some a.h h1) (a.f c h1 h2)⟩
theorem same_new {H : Hp} {p : Addr} {o : HO} (h : H p = none) : Same H (upd H p o) := fun b u e => by
  rw [upd_ne (ne_of_none e h)]
  exact e
theorem same_upd2 {G H : Hp} {p : Addr} {o : HO} (s : Same G H) : Same (upd G p o) (upd H p o) := fun b u e => by
  by_cases hb : b = p
  · subst hb
    rw [upd_same] at e ⊢
    exact e
  · rw [upd_ne hb] at e ⊢
    exact s b u e
/-- a new object, frozen at once -/
theorem Step.new {G H : Hp} {p : Addr} {o : HO} (s : Same G H) (h : H p = none) : Step G H (upd G p o) (upd H p o) :=
  ⟨same_new (s.free h), same_upd2 s, same_new h, fun b hb e => by
    have : b ≠ p := fun z => hb (by rw [z]; exact h)
    rw [upd_ne this]
    exact e⟩
/-- an object outside of G is new or changed -/
theorem same_out {G H : Hp} {p : Addr} {o : HO} (s : Same G H) (h : G p = none) : Same G (upd H p o) := fun b u e => by
  rw [upd_ne (ne_of_none e h)]
  exact s b u e
/-- a new object, not in G -/
theorem Step.newO {G H : Hp} {p : Addr} {o : HO} (s : Same G H) (h : H p = none) : Step G H G (upd H p o) :=
  ⟨Same.refl _, same_out s (s.free h), same_new h, fun _ _ e => e⟩

/-! ### values told by Lean values -/
inductive All2 {α β : Type} (R : α → β → Prop) : List α → List β → Prop
  | nil : All2 R [] []
  | cons {a b as bs} : R a b → All2 R as bs → All2 R (a :: as) (b :: bs)
section
variable {α β : Type} {R S : α → β → Prop}
theorem All2.length : ∀ {as : List α} {bs : List β}, All2 R as bs → as.length = bs.length
  | _, _, .nil => rfl
  | _, _, .cons _ t => congrArg Nat.succ t.length
theorem All2.mono (h : ∀ a b, R a b → S a b) : ∀ {as : List α} {bs : List β}, All2 R as bs → All2 S as bs
  | _, _, .nil => .nil
  | _, _, .cons r t => .cons (h _ _ r) (t.mono h)
theorem All2.get : ∀ {as : List α} {bs : List β} {i : Nat} {b : β}, All2 R as bs → bs[i]? = some b → ∃ a, as[i]? = some a ∧ R a b
  | _, _, _, _, .nil, e => by simp at e
  | _, _, 0, _, .cons r _, e => by
    simp at e
    subst e
    exact ⟨_, rfl, r⟩
  | _, _, i + 1, b, .cons _ t, e => by
    obtain ⟨a, h1, h2⟩ := t.get (i := i) (b := b) (by simpa using e)
    exact ⟨a, by simpa using h1, h2⟩
theorem All2.get' : ∀ {as : List α} {bs : List β} {i : Nat} {a : α}, All2 R as bs → as[i]? = some a → ∃ b, bs[i]? = some b ∧ R a b
  | _, _, _, _, .nil, e => by simp at e
  | _, _, 0, _, .cons r _, e => by
    simp at e
    subst e
    exact ⟨_, rfl, r⟩
  | _, _, i + 1, b, .cons _ t, e => by
    obtain ⟨a, h1, h2⟩ := t.get' (i := i) (by simpa using e)
    exact ⟨a, by simpa using h1, h2⟩
theorem All2.append : ∀ {as as' : List α} {bs bs' : List β}, All2 R as bs → All2 R as' bs' → All2 R (as ++ as') (bs ++ bs')
  | _, _, _, _, .nil, s => s
  | _, _, _, _, .cons r t, s => .cons r (t.append s)
theorem All2.take : ∀ {as : List α} {bs : List β} (n : Nat), All2 R as bs → All2 R (as.take n) (bs.take n)
  | _, _, 0, _ => .nil
  | _, _, _ + 1, .nil => .nil
  | _, _, n + 1, .cons r t => .cons r (t.take n)
theorem All2.drop : ∀ {as : List α} {bs : List β} (n : Nat), All2 R as bs → All2 R (as.drop n) (bs.drop n)
  | _, _, 0, r => r
  | _, _, _ + 1, .nil => .nil
  | _, _, n + 1, .cons _ t => t.drop n
theorem All2.set {a : α} {b : β} (r : R a b) : ∀ {as : List α} {bs : List β} (i : Nat), All2 R as bs → All2 R (as.set i a) (bs.set i b)
  | _, _, _, .nil => .nil
  | _, _, 0, .cons _ t => .cons r t
  | _, _, i + 1, .cons q t => .cons q (t.set r i)
theorem All2.replicate {a : α} {b : β} (r : R a b) : ∀ n : Nat, All2 R (List.replicate n a) (List.replicate n b)
  | 0 => .nil
  | n + 1 => .cons r (All2.replicate r n)
theorem All2.map {γ : Type} {f : γ → α} {g : γ → β} : ∀ (l : List γ), (∀ c ∈ l, R (f c) (g c)) → All2 R (l.map f) (l.map g)
  | [], _ => .nil
  | c :: l, h => .cons (h c (List.mem_cons_self ..)) (All2.map l fun d hd => h d (List.mem_cons_of_mem _ hd))
end

structure RT (α : Type) where
  rel : Hp → V → α → Prop
  mono : ∀ {G G' : Hp} {v : V} {x : α}, Same G G' → rel G v x → rel G' v x
def rI : RT Int := ⟨fun _ v x => v = .int x, fun _ h => h⟩
def rB : RT Bool := ⟨fun _ v x => v = .bl x, fun _ h => h⟩
def rU : RT Unit := ⟨fun _ v _ => v = .non, fun _ h => h⟩
def big : Nat := 100000
theorem big_line {n : Nat} (h : n < big) : n < sizeLine := Nat.lt_of_lt_of_le h (by decide)
def rL {α : Type} (R : RT α) : RT (List α) := ⟨fun G v xs => ∃ a vs, v = .ref a ∧ G a = some (.lst vs) ∧ All2 (R.rel G) vs xs ∧ xs.length < big,
  fun s ⟨a, vs, e, h, r, z⟩ => ⟨a, vs, e, s _ _ h, r.mono fun _ _ q => R.mono s q, z⟩⟩
def rP {α β : Type} (R : RT α) (S : RT β) : RT (α × β) := ⟨fun G v x => ∃ a v1 v2, v = .ref a ∧ G a = some (.tup [v1, v2]) ∧ R.rel G v1 x.1 ∧ S.rel G v2 x.2,
  fun s ⟨a, v1, v2, e, h, r1, r2⟩ => ⟨a, v1, v2, e, s _ _ h, R.mono s r1, S.mono s r2⟩⟩
def rO {α : Type} (R : RT α) : RT (Option α) := ⟨fun G v x => match x with | none => v = .non | some y => R.rel G v y, fun {G G' v x} s h => by
  cases x with
  | none => exact h
  | some y => exact R.mono s h⟩

/-! ### slots -/
inductive Sl : Type 1
  | no
  | im {α : Type} (R : RT α) (x : α)
  | own {α : Type} (R : RT α) (xs : List α)
def gt : List Sl → Nat → Sl
  | [], _ => .no
  | s :: _, 0 => s
  | _ :: r, i + 1 => gt r i
def st : List Sl → Nat → Sl → List Sl
  | [], _, _ => []
  | _ :: r, 0, t => t :: r
  | s :: r, i + 1, t => s :: st r i t
theorem st_len : ∀ (l : List Sl) (i : Nat) (t : Sl), (st l i t).length = l.length
  | [], _, _ => rfl
  | _ :: _, 0, _ => rfl
  | _ :: r, i + 1, t => congrArg Nat.succ (st_len r i t)
theorem gt_st_same : ∀ {l : List Sl} {i : Nat} {t : Sl}, i < l.length → gt (st l i t) i = t
  | [], _, _, h => absurd h (Nat.not_lt_zero _)
  | _ :: _, 0, _, _ => rfl
  | _ :: r, i + 1, t, h => gt_st_same (l := r) (Nat.lt_of_succ_lt_succ h)
theorem gt_st_ne : ∀ {l : List Sl} {i j : Nat} {t : Sl}, j ≠ i → gt (st l i t) j = gt l j
  | [], _, _, _, _ => rfl
  | _ :: _, 0, 0, _, h => absurd rfl h
  | _ :: _, 0, _ + 1, _, _ => rfl
  | _ :: _, _ + 1, 0, _, _ => rfl
  | _ :: r, i + 1, j + 1, t, h => gt_st_ne (l := r) (fun e => h (congrArg Nat.succ e))
theorem gt_out : ∀ {l : List Sl} {i : Nat}, l.length ≤ i → gt l i = .no
  | [], _, _ => rfl
  | _ :: _, 0, h => absurd h (Nat.not_succ_le_zero _)
  | _ :: r, i + 1, h => gt_out (l := r) (Nat.le_of_succ_le_succ h)
def isOwn : Sl → Bool
  | .own _ _ => true
  | _ => false
def SlOk (H0 G H : Hp) (o : Option (Option V)) : Sl → Prop
  | .no => True
  | .im R x => ∃ v, o = some (some v) ∧ R.rel G v x
  | .own R xs => ∃ l vs, o = some (some (.ref l)) ∧ H0 l = none ∧ G l = none ∧ H l = some (.lst vs) ∧ All2 (R.rel G) vs xs ∧ xs.length < big
structure Ty (H0 : Hp) (Γ : List Sl) (σ : L2.St) (G H : Hp) : Prop where
  len : σ.length = Γ.length
  at_ : ∀ i, SlOk H0 G H σ[i]? (gt Γ i)
  ap : ∀ i j l, isOwn (gt Γ i) = true → isOwn (gt Γ j) = true → σ[i]? = some (some (.ref l)) → σ[j]? = some (some (.ref l)) → i = j
theorem Ty.step {H0 : Hp} {Γ : List Sl} {σ : L2.St} {G H G' H' : Hp} (t : Ty H0 Γ σ G H) (p : Step G H G' H') : Ty H0 Γ σ G' H' := by
  refine ⟨t.len, fun i => ?_, t.ap⟩
  have q := t.at_ i
  revert q
  cases gt Γ i with
  | no => exact fun _ => trivial
  | im R x => exact fun ⟨v, e, r⟩ => ⟨v, e, R.mono p.g r⟩
  | own R xs => exact fun ⟨l, vs, e, h0, hg, hh, a, z⟩ => ⟨l, vs, e, h0, p.f l (by rw [hh]; exact fun z => nomatch z) hg, p.h _ _ hh, a.mono fun _ _ q => R.mono p.g q, z⟩
theorem Ty.set_im {H0 : Hp} {Γ : List Sl} {σ : L2.St} {G H : Hp} {α : Type} {R : RT α} {x : α} {v : V} {i : Nat} (t : Ty H0 Γ σ G H) (r : R.rel G v x) : Ty H0 (st Γ i (.im R x)) (σ.set i (some v)) G H := by
  by_cases hi : i < Γ.length
  · have hs : i < σ.length := by rw [t.len]; exact hi
    refine ⟨by rw [List.length_set, st_len]; exact t.len, fun j => ?_, fun j k l hj hk ej ek => ?_⟩
    · by_cases h : j = i
      · subst h
        rw [gt_st_same hi, List.getElem?_set_self hs]
        exact ⟨v, rfl, r⟩
      · rw [gt_st_ne h, List.getElem?_set_ne (Ne.symm h)]
        exact t.at_ j
    · have nj : j ≠ i := fun e => by
        rw [e, gt_st_same hi] at hj
        cases hj
      have nk : k ≠ i := fun e => by
        rw [e, gt_st_same hi] at hk
        cases hk
      rw [gt_st_ne nj] at hj
      rw [gt_st_ne nk] at hk
      rw [List.getElem?_set_ne (Ne.symm nj)] at ej
      rw [List.getElem?_set_ne (Ne.symm nk)] at ek
      exact t.ap j k l hj hk ej ek
  · have e1 : st Γ i (.im R x) = Γ := by
      clear t
      induction Γ generalizing i with
      | nil => rfl
      | cons s g ih =>
        cases i with
        | zero => exact absurd (Nat.succ_pos _) hi
        | succ i => exact congrArg (s :: ·) (ih (fun z => hi (Nat.succ_lt_succ z)))
    have e2 : σ.set i (some v) = σ := List.set_eq_of_length_le (by rw [t.len]; omega)
    rw [e1, e2]
    exact t
/-- slots forgotten -/
theorem Ty.wipe1 {H0 : Hp} {Γ : List Sl} {σ : L2.St} {G H : Hp} {i : Nat} {o : Option V} (t : Ty H0 Γ σ G H) : Ty H0 (st Γ i .no) (σ.set i o) G H := by
  refine ⟨by rw [List.length_set, st_len]; exact t.len, fun j => ?_, fun j k l hj hk ej ek => ?_⟩
  · by_cases h : j = i
    · subst h
      by_cases hj : j < Γ.length
      · rw [gt_st_same hj]
        trivial
      · rw [gt_out (by rw [st_len]; omega)]
        trivial
    · rw [gt_st_ne h, List.getElem?_set_ne (Ne.symm h)]
      exact t.at_ j
  · have no : ∀ {m : Nat}, isOwn (gt (st Γ i .no) m) = true → m ≠ i := fun {m} hm e => by
      rw [e] at hm
      by_cases hj : i < Γ.length
      · rw [gt_st_same hj] at hm
        cases hm
      · rw [gt_out (by rw [st_len]; omega)] at hm
        cases hm
    have nj := no hj
    have nk := no hk
    rw [gt_st_ne nj] at hj
    rw [gt_st_ne nk] at hk
    rw [List.getElem?_set_ne (Ne.symm nj)] at ej
    rw [List.getElem?_set_ne (Ne.symm nk)] at ek
    exact t.ap j k l hj hk ej ek
def wp (Γ : List Sl) : List Nat → List Sl
  | [] => Γ
  | v :: vs => st (wp Γ vs) v .no
theorem Ty.wipe {H0 : Hp} {Γ : List Sl} {σ : L2.St} {G H : Hp} (t : Ty H0 Γ σ G H) : ∀ vs : List Nat, Ty H0 (wp Γ vs) (L2.wipe σ vs) G H
  | [] => t
  | v :: vs => Ty.wipe1 (t.wipe vs)
/-- an own list's slot is set: a new place, or the same place with another list -/
theorem Ty.set_own {H0 : Hp} {Γ : List Sl} {σ : L2.St} {G H : Hp} {α : Type} {R : RT α} {xs : List α} {vs : List V} {l : Addr} {i : Nat} (t : Ty H0 Γ σ G H) (hi : i < Γ.length) (sm : Same G H) (h0 : H0 l = none) (hl : H l = none)
    (a : All2 (R.rel G) vs xs) (z : xs.length < big) : Ty H0 (st Γ i (.own R xs)) (σ.set i (some (.ref l))) G (upd H l (.lst vs)) := by
  have hs : i < σ.length := by rw [t.len]; exact hi
  have old : ∀ {j : Nat} {m : Addr}, isOwn (gt Γ j) = true → σ[j]? = some (some (.ref m)) → m ≠ l := fun {j m} hj e z => by
    have q := t.at_ j
    revert q hj
    cases gt Γ j with
    | no => exact fun h _ => nomatch h
    | im R x => exact fun h _ => nomatch h
    | own R xs =>
      rintro _ ⟨l', vs', e', _, _, hh, _⟩
      rw [e] at e'
      cases e'
      rw [z, hl] at hh
      cases hh
  refine ⟨by rw [List.length_set, st_len]; exact t.len, fun j => ?_, fun j k m hj hk ej ek => ?_⟩
  · by_cases h : j = i
    · subst h
      rw [gt_st_same hi, List.getElem?_set_self hs]
      exact ⟨l, vs, rfl, h0, sm.free hl, upd_same, a, z⟩
    · rw [gt_st_ne h, List.getElem?_set_ne (Ne.symm h)]
      have q := t.at_ j
      have o := @old j
      revert q o
      cases gt Γ j with
      | no => exact fun _ _ => trivial
      | im R x => exact fun q _ => q
      | own R xs =>
        rintro ⟨l', vs', e', h0', hg', hh, a', z'⟩ o
        exact ⟨l', vs', e', h0', hg', by rw [upd_ne (o rfl e')]; exact hh, a', z'⟩
  · by_cases h1 : j = i
    · by_cases h2 : k = i
      · rw [h1, h2]
      · rw [h1, List.getElem?_set_self hs] at ej
        cases ej
        rw [gt_st_ne h2] at hk
        rw [List.getElem?_set_ne (Ne.symm h2)] at ek
        exact absurd rfl (old hk ek)
    · by_cases h2 : k = i
      · rw [h2, List.getElem?_set_self hs] at ek
        cases ek
        rw [gt_st_ne h1] at hj
        rw [List.getElem?_set_ne (Ne.symm h1)] at ej
        exact absurd rfl (old hj ej)
      · rw [gt_st_ne h1] at hj
        rw [gt_st_ne h2] at hk
        rw [List.getElem?_set_ne (Ne.symm h1)] at ej
        rw [List.getElem?_set_ne (Ne.symm h2)] at ek
        exact t.ap j k m hj hk ej ek
/-- an own list changes -/
theorem Ty.chg_own {H0 : Hp} {Γ : List Sl} {σ : L2.St} {G H : Hp} {α β : Type} {R : RT α} {S : RT β} {xs : List α} {ys : List β} {ws : List V} {l : Addr} {i : Nat} (t : Ty H0 Γ σ G H) (hi : gt Γ i = .own R xs) (e : σ[i]? = some (some (.ref l)))
    (a : All2 (S.rel G) ws ys) (z : ys.length < big) : Ty H0 (st Γ i (.own S ys)) σ G (upd H l (.lst ws)) := by
  have hil : i < Γ.length := by
    by_cases h : i < Γ.length
    · exact h
    · rw [gt_out (by omega)] at hi
      cases hi
  have q0 := t.at_ i
  rw [hi] at q0
  obtain ⟨l', vs', e', h0, hg, hh, _, _⟩ := q0
  rw [e] at e'
  cases e'
  refine ⟨by rw [st_len]; exact t.len, fun j => ?_, fun j k m hj hk ej ek => ?_⟩
  · by_cases h : j = i
    · subst h
      rw [gt_st_same hil]
      exact ⟨l, ws, e, h0, hg, upd_same, a, z⟩
    · rw [gt_st_ne h]
      have q := t.at_ j
      have ap := t.ap j i
      revert q ap
      cases gt Γ j with
      | no => exact fun _ _ => trivial
      | im R x => exact fun q _ => q
      | own R xs =>
        rintro ⟨l', vs', e', h0', hg', hh, a', z'⟩ ap
        have nl : l' ≠ l := fun z => h (ap l rfl (by rw [hi]; rfl) (by rw [e', z]) e)
        exact ⟨l', vs', e', h0', hg', by rw [upd_ne nl]; exact hh, a', z'⟩
  · have own : ∀ {m : Nat}, isOwn (gt (st Γ i (.own S ys)) m) = true → isOwn (gt Γ m) = true := fun {m} hm => by
      by_cases h : m = i
      · rw [h, hi]; rfl
      · rw [gt_st_ne h] at hm
        exact hm
    exact t.ap j k m (own hj) (own hk) ej ek
/-- an own list is frozen -/
theorem Ty.freeze {H0 : Hp} {Γ : List Sl} {σ : L2.St} {G H : Hp} {α : Type} {R : RT α} {xs : List α} {vs : List V} {l : Addr} {i : Nat} (t : Ty H0 Γ σ G H) (hi : gt Γ i = .own R xs) (e : σ[i]? = some (some (.ref l))) (hl : H l = some (.lst vs)) (hg : G l = none)
    (a : All2 (R.rel G) vs xs) (z : xs.length < big) : Ty H0 (st Γ i (.im (rL R) xs)) σ (upd G l (.lst vs)) H := by
  have hil : i < Γ.length := by
    by_cases h : i < Γ.length
    · exact h
    · rw [gt_out (by omega)] at hi
      cases hi
  have sg : Same G (upd G l (.lst vs)) := same_new hg
  refine ⟨by rw [st_len]; exact t.len, fun j => ?_, fun j k m hj hk ej ek => ?_⟩
  · by_cases h : j = i
    · subst h
      rw [gt_st_same hil]
      exact ⟨.ref l, e, l, vs, rfl, upd_same, a.mono fun _ _ q => R.mono sg q, z⟩
    · rw [gt_st_ne h]
      have q := t.at_ j
      have ap := t.ap j i
      revert q ap
      cases gt Γ j with
      | no => exact fun _ _ => trivial
      | im R x => exact fun ⟨v, e', r⟩ _ => ⟨v, e', R.mono sg r⟩
      | own R xs =>
        rintro ⟨l', vs', e', h0', hg', hh, a', z'⟩ ap
        have nl : l' ≠ l := fun z => h (ap l rfl (by rw [hi]; rfl) (by rw [e', z]) e)
        exact ⟨l', vs', e', h0', by rw [upd_ne nl]; exact hg', hh, a'.mono fun _ _ q => R.mono sg q, z'⟩
  · have nj : j ≠ i := fun h => by
      rw [h, gt_st_same hil] at hj
      cases hj
    have nk : k ≠ i := fun h => by
      rw [h, gt_st_same hil] at hk
      cases hk
    rw [gt_st_ne nj] at hj
    rw [gt_st_ne nk] at hk
    exact t.ap j k m hj hk ej ek
/-- weaker slots -/
def Wk : List Sl → List Sl → Prop
  | [], [] => True
  | a :: as, b :: bs => (b = .no ∨ a = b) ∧ Wk as bs
  | _, _ => False
theorem Wk.refl : ∀ Γ : List Sl, Wk Γ Γ
  | [] => trivial
  | _ :: r => ⟨.inr rfl, Wk.refl r⟩
theorem Wk.len : ∀ {Γ Γ' : List Sl}, Wk Γ Γ' → Γ.length = Γ'.length
  | [], [], _ => rfl
  | _ :: _, _ :: _, h => congrArg Nat.succ h.2.len
  | [], _ :: _, h => h.elim
  | _ :: _, [], h => h.elim
theorem Wk.at_ : ∀ {Γ Γ' : List Sl}, Wk Γ Γ' → ∀ i, gt Γ' i = .no ∨ gt Γ i = gt Γ' i
  | [], [], _, _ => .inl rfl
  | _ :: _, _ :: _, h, 0 => h.1
  | _ :: _, _ :: _, h, i + 1 => h.2.at_ i
  | [], _ :: _, h, _ => h.elim
  | _ :: _, [], h, _ => h.elim
theorem Ty.weak {H0 : Hp} {Γ Γ' : List Sl} {σ : L2.St} {G H : Hp} (t : Ty H0 Γ σ G H) (w : Wk Γ Γ') : Ty H0 Γ' σ G H := by
  refine ⟨by rw [t.len]; exact w.len, fun j => ?_, fun j k m hj hk ej ek => ?_⟩
  · rcases w.at_ j with h | h
    · rw [h]
      trivial
    · rw [← h]
      exact t.at_ j
  · have own : ∀ {m : Nat}, isOwn (gt Γ' m) = true → isOwn (gt Γ m) = true := fun {m} hm => by
      rcases w.at_ m with h | h
      · rw [h] at hm
        cases hm
      · rw [h]
        exact hm
    exact t.ap j k m (own hj) (own hk) ej ek
end TW
set_option Elab.async false
set_option linter.all false
set_option maxRecDepth 100000
set_option maxHeartbeats 4000000
/-! Judgements over readings: expressions (EG, EN: a new list), tests (TG), what is walked (IG), targets (GT); their rules. -/
namespace TW
open PySem PySem.Spec PyProof.Rows L2
section
variable {α β γ : Type}
def EG (Γ : List Sl) (te : TE) (R : RT α) (x : α) : Prop := ∀ (H0 : Hp) (σ : L2.St) (G H : Hp) (Q : VK), Same H0 H → Same G H → Ty H0 Γ σ G H → (∀ v G' H', Step G H G' H' → R.rel G' v x → Q v H') → te σ H Q
/-- a new list, not in G -/
def EN (Γ : List Sl) (te : TE) (R : RT α) (xs : List α) : Prop := ∀ (H0 : Hp) (σ : L2.St) (G H : Hp) (Q : VK), Same H0 H → Same G H → Ty H0 Γ σ G H →
  (∀ l vs G' H', Step G H G' H' → H l = none → G' l = none → H' l = some (.lst vs) → All2 (R.rel G') vs xs → xs.length < big → Q (.ref l) H') → te σ H Q
theorem enk {R : RT α} {xs : List α} {G H : Hp} {Q : VK} (k : ∀ l vs G' H', Step G H G' H' → H l = none → G' l = none → H' l = some (.lst vs) → All2 (R.rel G') vs xs → xs.length < big → Q (.ref l) H')
    (l : Addr) (vs : List V) (G' H1 : Hp) (p : Step G H G' H1) (hl : H1 l = none) (a : All2 (R.rel G') vs xs) (z : xs.length < big) : Q (.ref l) (upd H1 l (.lst vs)) :=
  k l vs G' _ (p.trans (Step.newO p.s hl)) (p.h.free hl) (p.s.free hl) upd_same a z
theorem Step.froz {G H G' H' : Hp} {l : Addr} {o : HO} (p : Step G H G' H') (h0 : H l = none) (hg : G' l = none) (hl : H' l = some o) : Step G H (upd G' l o) H' :=
  ⟨p.g.trans (same_new hg), fun b u e => by
    by_cases hb : b = l
    · subst hb
      rw [upd_same] at e
      rw [hl]
      exact e
    · rw [upd_ne hb] at e
      exact p.s b u e, p.h, fun b h1 h2 => by
    have hb : b ≠ l := fun z => h1 (by rw [z]; exact h0)
    rw [upd_ne hb]
    exact p.f b h1 h2⟩
def ET (Γ : List Sl) (tt : TT) (b : Bool) : Prop := ∀ (H0 : Hp) (σ : L2.St) (G H : Hp) (Q : Bool → Hp → Prop), Same H0 H → Same G H → Ty H0 Γ σ G H → (∀ G' H', Step G H G' H' → Q b H') → tt σ H Q
/-- arguments: one relation on the list of values -/
def EA (Γ : List Sl) (ta : TA) (P : Hp → List V → Prop) : Prop := ∀ (H0 : Hp) (σ : L2.St) (G H : Hp) (Q : List V → Hp → Prop), Same H0 H → Same G H → Ty H0 Γ σ G H → (∀ vs G' H', Step G H G' H' → P G' vs → Q vs H') → ta σ H Q
variable {Γ : List Sl} {ta tb tc te : TE} {tt tu : TT} {R : RT α} {S : RT β} {U : RT γ} {x : α} {y : β} {z : γ} {i j : Int} {K : PySem.W.Frag}
theorem EG.cast {x' : α} (h : EG Γ te R x) (e : x = x') : EG Γ te R x' := e ▸ h
theorem EN.cast {xs xs' : List α} (h : EN Γ te R xs) (e : xs = xs') : EN Γ te R xs' := e ▸ h
theorem ET.cast {b b' : Bool} (h : ET Γ tt b) (e : b = b') : ET Γ tt b' := e ▸ h
/-- another way to tell the value -/
theorem EG.as {y : β} (h : EG Γ te R x) (f : ∀ G v, R.rel G v x → S.rel G v y) : EG Γ te S y := fun H0 σ G H Q h0 s t k => h H0 σ G H Q h0 s t fun v G' H' p r => k v G' H' p (f G' v r)
theorem EN.eg {xs : List α} (h : EN Γ te R xs) : EG Γ te (rL R) xs := fun H0 σ G H Q h0 s t k => h H0 σ G H Q h0 s t fun l vs G' H1 p hl hg hh a z =>
  k _ _ _ (p.froz hl hg hh) ⟨l, vs, rfl, upd_same, a.mono fun _ _ q => R.mono (same_new hg) q, z⟩
theorem eg_var (n : Nat) (h : gt Γ n = .im R x) : EG Γ (tVar n) R x := fun H0 σ G H Q h0 s t k => by
  have q := t.at_ n
  rw [h] at q
  obtain ⟨v, e, r⟩ := q
  exact ⟨v, e, k v G H (Step.refl s) r⟩
theorem eg_c {v : V} (h : ∀ G, R.rel G v x) : EG Γ (tC v) R x := fun H0 σ G H Q h0 s t k => k v G H (Step.refl s) (h G)
theorem eg_int : EG Γ (tC (.int i)) rI i := eg_c fun _ => rfl
theorem eg_bl {b : Bool} : EG Γ (tC (.bl b)) rB b := eg_c fun _ => rfl
theorem eg_non : EG Γ (tC .non) (rO R) none := eg_c fun _ => rfl
/-- two expressions, one behind the other -/
theorem eg_two (ha : EG Γ ta R x) (hb : EG Γ tb S y) {H0 : Hp} {σ : L2.St} {G H : Hp} {Q : V → V → Hp → Prop} (h0 : Same H0 H) (s : Same G H) (t : Ty H0 Γ σ G H)
    (k : ∀ v w G' H', Step G H G' H' → R.rel G' v x → S.rel G' w y → Q v w H') : ta σ H fun v H1 => tb σ H1 fun w H2 => Q v w H2 :=
  ha H0 σ G H _ h0 s t fun v G1 H1 p r => hb H0 σ G1 H1 _ (h0.trans p.h) p.s (t.step p) fun w G2 H2 p2 r2 => k v w G2 H2 (p.trans p2) (R.mono p2.g r) r2
theorem eg_opI0 {g : Int → Int → V} {u : γ} (ha : EG Γ ta rI i) (hb : EG Γ tb rI j) (h : ∀ G, U.rel G (g i j) u) : EG Γ (tOp (rI0 g) ta tb) U u := fun H0 σ G H Q h0 s t k =>
  eg_two ha hb h0 s t fun v w G' H' p r1 r2 => ⟨i, j, r1, r2, k _ G' H' p (h G')⟩
theorem eg_opI {C : Int → Int → Prop} {g : Int → Int → V} {u : γ} (ha : EG Γ ta rI i) (hb : EG Γ tb rI j) (hc : C i j) (h : ∀ G, U.rel G (g i j) u) : EG Γ (tOp (L2.rI C g) ta tb) U u := fun H0 σ G H Q h0 s t k =>
  eg_two ha hb h0 s t fun v w G' H' p r1 r2 => ⟨i, j, r1, r2, hc, k _ G' H' p (h G')⟩
theorem eg_add (ha : EG Γ ta rI i) (hb : EG Γ tb rI j) : EG Γ (tOp (rI0 fun i j => .int (i + j)) ta tb) rI (i + j) := eg_opI0 ha hb fun _ => rfl
theorem eg_sub (ha : EG Γ ta rI i) (hb : EG Γ tb rI j) : EG Γ (tOp (rI0 fun i j => .int (i - j)) ta tb) rI (i - j) := eg_opI0 ha hb fun _ => rfl
theorem eg_mulW (ha : EG Γ ta rI i) (hb : EG Γ tb rI j) (hc : CMulW i j) : EG Γ (tOp (L2.rI CMulW fun i j => .int (i * j)) ta tb) rI (i * j) := eg_opI ha hb hc fun _ => rfl
theorem eg_fdivW (ha : EG Γ ta rI i) (hb : EG Γ tb rI j) (hc : CDivW i j) : EG Γ (tOp (L2.rI CDivW fun i j => .int (i / j)) ta tb) rI (i / j) := eg_opI ha hb hc fun _ => rfl
theorem eg_mod (ha : EG Γ ta rI i) (hb : EG Γ tb rI j) (hc : 0 < j) : EG Γ (tOp (L2.rI (fun _ j => 0 < j) fun i j => .int (i % j)) ta tb) rI (i % j) := eg_opI ha hb hc fun _ => rfl
theorem eg_lt (ha : EG Γ ta rI i) (hb : EG Γ tb rI j) : EG Γ (tOp (rI0 fun i j => .bl (decide (i < j))) ta tb) rB (decide (i < j)) := eg_opI0 ha hb fun _ => rfl
theorem eg_le (ha : EG Γ ta rI i) (hb : EG Γ tb rI j) : EG Γ (tOp (rI0 fun i j => .bl (decide (i ≤ j))) ta tb) rB (decide (i ≤ j)) := eg_opI0 ha hb fun _ => rfl
theorem eg_gt (ha : EG Γ ta rI i) (hb : EG Γ tb rI j) : EG Γ (tOp (rI0 fun i j => .bl (decide (j < i))) ta tb) rB (decide (j < i)) := eg_opI0 ha hb fun _ => rfl
theorem eg_ge (ha : EG Γ ta rI i) (hb : EG Γ tb rI j) : EG Γ (tOp (rI0 fun i j => .bl (decide (j ≤ i))) ta tb) rB (decide (j ≤ i)) := eg_opI0 ha hb fun _ => rfl
theorem dec_ii {i j : Int} : decide (V.int i = V.int j) = decide (i = j) := decide_eq_decide.mpr ⟨fun e => V.int.inj e, fun e => congrArg V.int e⟩
theorem eg_eq (ha : EG Γ ta rI i) (hb : EG Γ tb rI j) : EG Γ (tOp rEq ta tb) rB (decide (i = j)) := fun H0 σ G H Q h0 s t k =>
  eg_two ha hb h0 s t fun v w G' H' p r1 r2 => by
    obtain rfl : v = .int i := r1
    obtain rfl : w = .int j := r2
    exact ⟨rfl, k _ G' H' p (congrArg V.bl dec_ii)⟩
theorem eg_ne (ha : EG Γ ta rI i) (hb : EG Γ tb rI j) : EG Γ (tOp rNe ta tb) rB (!decide (i = j)) := fun H0 σ G H Q h0 s t k =>
  eg_two ha hb h0 s t fun v w G' H' p r1 r2 => by
    obtain rfl : v = .int i := r1
    obtain rfl : w = .int j := r2
    exact ⟨rfl, k _ G' H' p (congrArg (fun b => V.bl (!b)) dec_ii)⟩
theorem eg_neg (ha : EG Γ ta rI i) : EG Γ (tUn (L2.rU fun i => .int (-i)) ta) rI (-i) := fun H0 σ G H Q h0 s t k => ha H0 σ G H _ h0 s t fun v G' H' p r => ⟨i, r, k _ G' H' p rfl⟩
/-! tests, bools -/
theorem tg_val {b : Bool} (h : EG Γ te rB b) : ET Γ (tTest te) b := fun H0 σ G H Q h0 s t k => h H0 σ G H _ h0 s t fun v G' H' p r => ⟨b, r, k G' H' p⟩
theorem tg_B {b : Bool} (h : EG Γ te rB b) : ET Γ (tB te) b := fun H0 σ G H Q h0 s t k => h H0 σ G H _ h0 s t fun v G' H' p r => ⟨b, r, k G' H' p⟩
theorem tg_not {b : Bool} (h : ET Γ tt b) : ET Γ (tNot tt) (!b) := fun H0 σ G H Q h0 s t k => h H0 σ G H _ h0 s t k
theorem tg_and {a b : Bool} (h : ET Γ tt a) (h2 : a = true → ET Γ tu b) : ET Γ (tAnd tt tu) (a && b) := fun H0 σ G H Q h0 s t k => h H0 σ G H _ h0 s t fun G1 H1 p => by
  cases a with
  | true => exact h2 rfl H0 σ G1 H1 Q (h0.trans p.h) p.s (t.step p) fun G2 H2 p2 => k G2 H2 (p.trans p2)
  | false => exact k G1 H1 p
theorem tg_or {a b : Bool} (h : ET Γ tt a) (h2 : a = false → ET Γ tu b) : ET Γ (tOr tt tu) (a || b) := fun H0 σ G H Q h0 s t k => h H0 σ G H _ h0 s t fun G1 H1 p => by
  cases a with
  | false => exact h2 rfl H0 σ G1 H1 Q (h0.trans p.h) p.s (t.step p) fun G2 H2 p2 => k G2 H2 (p.trans p2)
  | true => exact k G1 H1 p
theorem eg_andV {a b : Bool} (h : EG Γ ta rB a) (h2 : a = true → EG Γ tb rB b) : EG Γ (tAndV ta tb) rB (a && b) := fun H0 σ G H Q h0 s t k => h H0 σ G H _ h0 s t fun v G1 H1 p r => ⟨a, r, by
  cases a with
  | true => exact h2 rfl H0 σ G1 H1 Q (h0.trans p.h) p.s (t.step p) fun v G2 H2 p2 => k v G2 H2 (p.trans p2)
  | false => exact k _ G1 H1 p rfl⟩
theorem eg_orV {a b : Bool} (h : EG Γ ta rB a) (h2 : a = false → EG Γ tb rB b) : EG Γ (tOrV ta tb) rB (a || b) := fun H0 σ G H Q h0 s t k => h H0 σ G H _ h0 s t fun v G1 H1 p r => ⟨a, r, by
  cases a with
  | false => exact h2 rfl H0 σ G1 H1 Q (h0.trans p.h) p.s (t.step p) fun v G2 H2 p2 => k v G2 H2 (p.trans p2)
  | true => exact k _ G1 H1 p rfl⟩
theorem eg_notV {a : Bool} (h : EG Γ ta rB a) : EG Γ (tNotV ta) rB (!a) := fun H0 σ G H Q h0 s t k => h H0 σ G H _ h0 s t fun v G1 H1 p r => ⟨a, r, k _ G1 H1 p rfl⟩
theorem eg_if {b : Bool} {x1 x2 : α} (h : ET Γ tt b) (h1 : b = true → EG Γ ta R x1) (h2 : b = false → EG Γ tb R x2) : EG Γ (tIf tt ta tb) R (if b = true then x1 else x2) := fun H0 σ G H Q h0 s t k => h H0 σ G H _ h0 s t fun G1 H1 p => by
  cases b with
  | true => exact h1 rfl H0 σ G1 H1 Q (h0.trans p.h) p.s (t.step p) fun v G2 H2 p2 => k v G2 H2 (p.trans p2)
  | false => exact h2 rfl H0 σ G1 H1 Q (h0.trans p.h) p.s (t.step p) fun v G2 H2 p2 => k v G2 H2 (p.trans p2)
/-- x is None: what R tells is never None -/
def NoN (R : RT α) : Prop := ∀ G v x, R.rel G v x → v ≠ .non
theorem nn_L : NoN (rL R) := fun G v x ⟨a, vs, e, _⟩ z => by rw [e] at z; cases z
theorem nn_P : NoN (rP R S) := fun G v x ⟨a, v1, v2, e, _⟩ z => by rw [e] at z; cases z
theorem eg_isN {o : Option α} (hn : NoN R) (h : EG Γ ta (rO R) o) : EG Γ (tIsN ta) rB o.isNone := fun H0 σ G H Q h0 s t k => h H0 σ G H _ h0 s t fun v G1 H1 p r => k _ G1 H1 p (by
  cases o with
  | none =>
    obtain rfl : v = .non := r
    exact congrArg V.bl (decide_eq_true rfl)
  | some y => exact congrArg V.bl (decide_eq_false (hn G1 v y r)))
theorem eg_notN {o : Option α} (hn : NoN R) (h : EG Γ ta (rO R) o) : EG Γ (tNotN ta) rB o.isSome := fun H0 σ G H Q h0 s t k => h H0 σ G H _ h0 s t fun v G1 H1 p r => k _ G1 H1 p (by
  cases o with
  | none =>
    obtain rfl : v = .non := r
    exact congrArg (fun b => V.bl (!b)) (decide_eq_true rfl)
  | some y => exact congrArg (fun b => V.bl (!b)) (decide_eq_false (hn G1 v y r)))
theorem eg_some {y : α} (h : EG Γ te R y) : EG Γ te (rO R) (some y) := h.as fun _ _ r => r
theorem eg_unsome {y : α} (h : EG Γ te (rO R) (some y)) : EG Γ te R y := h.as fun _ _ r => r
/-! displays -/
def ER (Γ : List Sl) (ta : TA) (R : RT α) (xs : List α) : Prop := EA Γ ta fun G vs => All2 (R.rel G) vs xs
theorem er_nil : ER Γ tNil R [] := fun H0 σ G H Q h0 s t k => k [] G H (Step.refl s) .nil
theorem er_cons {tr : TA} {xs : List α} (h : EG Γ te R x) (hr : ER Γ tr R xs) : ER Γ (tCons te tr) R (x :: xs) := fun H0 σ G H Q h0 s t k => h H0 σ G H _ h0 s t fun v G1 H1 p r =>
  hr H0 σ G1 H1 _ (h0.trans p.h) p.s (t.step p) fun vs G2 H2 p2 a => k _ G2 H2 (p.trans p2) (.cons (R.mono p2.g r) a)
theorem en_lst {tr : TA} {xs : List α} (h : ER Γ tr R xs) (z : xs.length < big) : EN Γ (tLst tr) R xs := fun H0 σ G H Q h0 s t k => h H0 σ G H _ h0 s t fun vs G1 H1 p a =>
  ⟨Nat.le_of_lt (big_line (by rw [a.length]; exact z)), fun l hl => enk k l vs G1 H1 p hl a z⟩
theorem eg_tup (ha : EG Γ ta R x) (hb : EG Γ tb S y) : EG Γ (tTup (tCons ta (tCons tb tNil))) (rP R S) (x, y) := fun H0 σ G H Q h0 s t k =>
  eg_two ha hb h0 s t fun v w G' H' p r1 r2 => ⟨(by show 2 ≤ sizeLine; decide), fun l hl => k _ _ _ (p.trans (Step.new p.s hl)) ⟨l, v, w, rfl, upd_same, R.mono (same_new (p.s.free hl)) r1, S.mono (same_new (p.s.free hl)) r2⟩⟩
/-! subscripts -/
theorem sq_of {H : Hp} {a : Addr} {vs : List V} (h : H a = some (.lst vs)) : SqL K H a vs := .inl (.inl h)
theorem st_of {H : Hp} {a : Addr} {vs : List V} (h : H a = some (.tup vs)) : SqT K H a vs := .inl (.inl h)
theorem All2.atI {P : α → β → Prop} {as : List α} {bs : List β} {b : β} {i : Int} (h : All2 P as bs) (e : L2.atI bs i = some b) : ∃ a, L2.atI as i = some a ∧ P a b := by
  unfold L2.atI at e ⊢
  rw [h.length]
  cases q : ixN bs.length i with
  | none => rw [q] at e; cases e
  | some m =>
    rw [q] at e
    exact h.get e
theorem atI_of {l : List α} {n : Nat} {x : α} (h : l[n]? = some x) : L2.atI l (n : Int) = some x := atI_nat h
theorem eg_ix {xs : List α} (ha : EG Γ ta (rL R) xs) (hb : EG Γ tb rI i) (e : L2.atI xs i = some x) : EG Γ (tOp (rIxL K) ta tb) R x := fun H0 σ G H Q h0 s t k =>
  eg_two ha hb h0 s t fun v w G' H' p r1 r2 => by
    obtain ⟨a, vs, ev, hv, q, z⟩ := r1
    obtain ⟨u, e1, e2⟩ := q.atI e
    exact ⟨a, vs, i, u, ev, r2, sq_of (p.s _ _ hv), e1, k u G' H' p e2⟩
/-- an item of an own list -/
theorem eg_ixO {xs : List α} (n : Nat) (h : gt Γ n = .own R xs) (hb : EG Γ tb rI i) (e : L2.atI xs i = some x) : EG Γ (tOp (rIxL K) (tVar n) tb) R x := fun H0 σ G H Q h0 s t k => by
  have q := t.at_ n
  rw [h] at q
  obtain ⟨l, vs, ev, _, hg, hh, a, z⟩ := q
  refine ⟨.ref l, ev, hb H0 σ G H _ h0 s t fun w G' H' p r2 => ?_⟩
  obtain ⟨u, e1, e2⟩ := a.atI e
  exact ⟨l, vs, i, u, rfl, r2, sq_of (p.h _ _ hh), e1, k u G' H' p (R.mono p.g e2)⟩
theorem eg_fst {o : α × β} (ha : EG Γ ta (rP R S) o) (hb : EG Γ tb rI 0) : EG Γ (tOp (rIxT K) ta tb) R o.1 := fun H0 σ G H Q h0 s t k =>
  eg_two ha hb h0 s t fun v w G' H' p r1 r2 => by
    obtain ⟨a, v1, v2, ev, hv, q1, q2⟩ := r1
    exact ⟨a, [v1, v2], 0, v1, ev, r2, st_of (p.s _ _ hv), atI_nat (j := 0) rfl, k v1 G' H' p q1⟩
theorem eg_snd {o : α × β} (ha : EG Γ ta (rP R S) o) (hb : EG Γ tb rI 1) : EG Γ (tOp (rIxT K) ta tb) S o.2 := fun H0 σ G H Q h0 s t k =>
  eg_two ha hb h0 s t fun v w G' H' p r1 r2 => by
    obtain ⟨a, v1, v2, ev, hv, q1, q2⟩ := r1
    exact ⟨a, [v1, v2], 1, v2, ev, r2, st_of (p.s _ _ hv), atI_nat (j := 1) rfl, k v2 G' H' p q2⟩
/-- xs[lo:hi] -/
def cutL (xs : List α) (lo hi : Option Int) : List α := (xs.drop (HT.sIx xs.length 0 lo)).take (HT.sIx xs.length xs.length hi - HT.sIx xs.length 0 lo)
def PG' (Γ : List Sl) (to : TO) (o : Option Int) : Prop := ∀ (H0 : Hp) (σ : L2.St) (G H : Hp) (Q : Option Int → Hp → Prop), Same H0 H → Same G H → Ty H0 Γ σ G H → (∀ G' H', Step G H G' H' → Q o H') → to σ H Q
theorem po_no : PG' Γ tNoPart none := fun H0 σ G H Q h0 s t k => k G H (Step.refl s)
theorem po_so (h : EG Γ te rI i) : PG' Γ (tPart te) (some i) := fun H0 σ G H Q h0 s t k => h H0 σ G H _ h0 s t fun v G' H' p r => ⟨i, r, k G' H' p⟩
theorem cutL_len (xs : List α) (lo hi : Option Int) : (cutL xs lo hi).length ≤ xs.length := by
  unfold cutL
  rw [List.length_take, List.length_drop]
  omega
theorem en_slice {xs : List α} {tl th : TO} {lo hi : Option Int} (h : EG Γ te (rL R) xs) (hl : PG' Γ tl lo) (hh : PG' Γ th hi) : EN Γ (tSl (rSlL K) te tl th) R (cutL xs lo hi) := fun H0 σ G H Q h0 s t k =>
  h H0 σ G H _ h0 s t fun v G1 H1 p r => hl H0 σ G1 H1 _ (h0.trans p.h) p.s (t.step p) fun G2 H2 p2 => hh H0 σ G2 H2 _ (h0.trans (p.trans p2).h) p2.s (t.step (p.trans p2)) fun G3 H3 p3 => by
    obtain ⟨a, vs, ev, hv, q, z⟩ := r
    refine ⟨a, vs, ev, sq_of (p3.h _ _ (p2.h _ _ (p.s _ _ hv))), fun l hl => enk k l (cutV vs lo hi) G3 H3 ((p.trans p2).trans p3) hl ?_ (Nat.lt_of_le_of_lt (cutL_len xs lo hi) z)⟩
    unfold cutV cutL
    rw [q.length]
    exact ((q.mono fun _ _ w => R.mono (p2.g.trans p3.g) w).drop _).take _
/-! + and * of lists -/
theorem en_cat {xs ys : List α} (ha : EG Γ ta (rL R) xs) (hb : EG Γ tb (rL R) ys) (z : xs.length + ys.length < big) : EN Γ (tOp rCat ta tb) R (xs ++ ys) := fun H0 σ G H Q h0 s t k =>
  eg_two ha hb h0 s t fun v w G' H' p r1 r2 => by
    obtain ⟨a, vs, ev, hv, q, _⟩ := r1
    obtain ⟨b, ws, ew, hw, q2, _⟩ := r2
    exact ⟨a, b, vs, ws, ev, ew, p.s _ _ hv, p.s _ _ hw, Nat.le_of_lt (big_line (by rw [q.length, q2.length]; exact z)), fun l hl => enk k l _ G' H' p hl (q.append q2) (by rw [List.length_append]; exact z)⟩
theorem flat1 (v : α) : ∀ n : Nat, (List.replicate n [v]).flatten = List.replicate n v
  | 0 => rfl
  | n + 1 => by
    show [v] ++ (List.replicate n [v]).flatten = v :: List.replicate n v
    rw [flat1 v n]
    rfl
theorem en_rep {n : Int} (ha : EG Γ ta (rL R) [x]) (hb : EG Γ tb rI n) (hn0 : 0 ≤ n) (hn : n < 100000) : EN Γ (tOp rRep ta tb) R (List.replicate n.toNat x) := fun H0 σ G H Q h0 s t k => by
  refine eg_two ha hb h0 s t fun v w G' H' p r1 r2 => ?_
  obtain ⟨a, vs, ev, hv, q, _⟩ := r1
  cases q with
  | cons r q =>
    cases q
    refine ⟨a, n, _, ev, r2, p.s _ _ hv, by omega, by omega, Nat.le_of_lt (big_line (by show 1 * n.toNat < 100000; omega)), fun l hl => ?_⟩
    rw [flat1]
    exact enk k l _ G' H' p hl (All2.replicate r _) (by rw [List.length_replicate]; show n.toNat < 100000; omega)
/-! built-ins on lists -/
theorem eg_len {xs : List α} (ha : EG Γ ta (rL R) xs) : EG Γ (tCB (fun xs H Q => ∃ p ys, xs = [V.ref p] ∧ (SqL K H p ys ∨ SqT K H p ys) ∧ Q (.int ys.length) H) (tCons ta tNil)) rI (xs.length : Int) := fun H0 σ G H Q h0 s t k =>
  ha H0 σ G H _ h0 s t fun v G' H' p r => by
    obtain ⟨a, vs, ev, hv, q, _⟩ := r
    exact ⟨a, vs, by rw [ev], .inl (sq_of (p.s _ _ hv)), k _ G' H' p (by rw [q.length]; rfl)⟩
theorem en_list {xs : List α} (ha : EG Γ ta (rL R) xs) : EN Γ (tCB (fun xs H Q => ∃ p ys, xs = [V.ref p] ∧ (SqL K H p ys ∨ SqT K H p ys) ∧ ∀ l, H l = none → Q (.ref l) (upd H l (.lst ys))) (tCons ta tNil)) R xs := fun H0 σ G H Q h0 s t k =>
  ha H0 σ G H _ h0 s t fun v G' H' p r => by
    obtain ⟨a, vs, ev, hv, q, z⟩ := r
    exact ⟨a, vs, by rw [ev], .inl (sq_of (p.s _ _ hv)), fun l hl => enk k l vs G' H' p hl q z⟩
theorem all2_int : ∀ {vs : List V} {xs : List Int} {G : Hp}, All2 (rI.rel G) vs xs → vs = xs.map V.int
  | _, _, _, .nil => rfl
  | _, _, _, .cons r t => by
    rw [show _ = V.int _ from r, all2_int t]
    rfl
theorem all2_bl : ∀ {vs : List V} {xs : List Bool} {G : Hp}, All2 (rB.rel G) vs xs → vs = xs.map V.bl
  | _, _, _, .nil => rfl
  | _, _, _, .cons r t => by
    rw [show _ = V.bl _ from r, all2_bl t]
    rfl
theorem eg_sum {xs : List Int} (ha : EG Γ ta (rL rI) xs) : EG Γ (tCB (rSum K) (tCons ta tNil)) rI xs.sum := fun H0 σ G H Q h0 s t k =>
  ha H0 σ G H _ h0 s t fun v G' H' p r => by
    obtain ⟨a, vs, ev, hv, q, _⟩ := r
    exact ⟨a, xs, by rw [ev], sq_of (by rw [p.s _ _ hv, all2_int q]), k _ G' H' p rfl⟩
theorem eg_any {xs : List Bool} (ha : EG Γ ta (rL rB) xs) : EG Γ (tCB (rAny K) (tCons ta tNil)) rB (xs.any id) := fun H0 σ G H Q h0 s t k =>
  ha H0 σ G H _ h0 s t fun v G' H' p r => by
    obtain ⟨a, vs, ev, hv, q, _⟩ := r
    exact ⟨a, xs, by rw [ev], sq_of (by rw [p.s _ _ hv, all2_bl q]), k _ G' H' p rfl⟩
theorem eg_all {xs : List Bool} (ha : EG Γ ta (rL rB) xs) : EG Γ (tCB (rAll K) (tCons ta tNil)) rB (xs.all id) := fun H0 σ G H Q h0 s t k =>
  ha H0 σ G H _ h0 s t fun v G' H' p r => by
    obtain ⟨a, vs, ev, hv, q, _⟩ := r
    exact ⟨a, xs, by rw [ev], sq_of (by rw [p.s _ _ hv, all2_bl q]), k _ G' H' p rfl⟩
/-- int(a bool) -/
theorem eg_intB {b : Bool} (ha : EG Γ ta rB b) : EG Γ (tCB (fun xs H Q => (∃ i, xs = [V.int i] ∧ Q (.int i) H) ∨ ∃ k, xs = [V.bl k] ∧ Q (.int (if k then 1 else 0)) H) (tCons ta tNil)) rI (if b then 1 else 0) := fun H0 σ G H Q h0 s t k =>
  ha H0 σ G H _ h0 s t fun v G' H' p r => .inr ⟨b, by rw [show v = .bl b from r], k _ G' H' p rfl⟩
theorem eg_intI (ha : EG Γ ta rI i) : EG Γ (tCB (fun xs H Q => (∃ i, xs = [V.int i] ∧ Q (.int i) H) ∨ ∃ k, xs = [V.bl k] ∧ Q (.int (if k then 1 else 0)) H) (tCons ta tNil)) rI i := fun H0 σ G H Q h0 s t k =>
  ha H0 σ G H _ h0 s t fun v G' H' p r => .inl ⟨i, by rw [show v = .int i from r], k _ G' H' p rfl⟩
theorem eg_gcd (ha : EG Γ ta rI i) (hb : EG Γ tb rI j) : EG Γ (tCB rGcd (tCons ta (tCons tb tNil))) rI ((Nat.gcd i.natAbs j.natAbs : Nat) : Int) := fun H0 σ G H Q h0 s t k =>
  eg_two ha hb h0 s t fun v w G' H' p r1 r2 => ⟨i, j, by rw [show v = .int i from r1, show w = .int j from r2], k _ G' H' p rfl⟩
/-- x in xs, ints -/
theorem flat_ints (xs : List Int) : (xs.map V.int).all flatV = true := by
  rw [List.all_eq_true]
  intro v hv
  obtain ⟨i, _, e⟩ := List.mem_map.mp hv
  rw [← e]
  rfl
theorem inV_ints (x : Int) : ∀ xs : List Int, inV (.int x) (xs.map V.int) = decide (x ∈ xs)
  | [] => by simp [inV]
  | y :: ys => by
    have ih := inV_ints x ys
    unfold inV at ih ⊢
    rw [List.map_cons, List.any_cons, ih]
    by_cases h : y = x
    · subst h
      simp [eqV]
    · have h' : ¬ x = y := fun e => h e.symm
      simp [eqV, h, h']
theorem eg_notIn {xs : List Int} (ha : EG Γ ta rI i) (hb : EG Γ tb (rL rI) xs) : EG Γ (tOp (rIn K true) ta tb) rB (!decide (i ∈ xs)) := fun H0 σ G H Q h0 s t k =>
  eg_two ha hb h0 s t fun v w G' H' p r1 r2 => by
    obtain rfl : v = .int i := r1
    obtain ⟨a, vs, ev, hv, q, _⟩ := r2
    have e := all2_int q
    subst e
    refine ⟨a, _, ev, .inl (sq_of (p.s _ _ hv)), rfl, flat_ints xs, k _ G' H' p ?_⟩
    show V.bl (!inV (.int i) (xs.map V.int)) = _
    rw [inV_ints]
end
end TW
set_option Elab.async false
set_option linter.all false
set_option maxRecDepth 100000
set_option maxHeartbeats 4000000
/-! What is walked (IG), targets (GT), comprehensions, statements (Sg), calls and promises. -/
namespace TW
open PySem PySem.Spec PyProof.Rows L2
section
variable {α β γ δ : Type} {Γ : List Sl} {ta tb tc te tl : TE} {tt tu : TT} {R : RT α} {S : RT β} {U : RT γ} {x : α} {y : β} {z : γ} {i j : Int} {K : PySem.W.Frag}
/-! ### what is walked -/
def Yi (R : RT α) (xs : List α) (G' : Hp) : Nat → Hp → V → Hp → Prop := fun i H v H' => ∃ y, xs[i]? = some y ∧ ∀ G1, Same G' G1 → Same G1 H → ∃ G2, Step G1 H G2 H' ∧ R.rel G2 v y
def IG (Γ : List Sl) (wi : TI) (R : RT α) (xs : List α) : Prop := ∀ (H0 : Hp) (σ : L2.St) (G H : Hp) (Rr : It → Hp → Prop), Same H0 H → Same G H → Ty H0 Γ σ G H →
  (∀ J G' H', Step G H G' H' → Walk J xs.length (Same G') (Yi R xs G') → xs.length < big → Rr J H') → wi σ H Rr
theorem IG.cast {wi : TI} {xs xs' : List α} (h : IG Γ wi R xs) (e : xs = xs') : IG Γ wi R xs' := e ▸ h
theorem ig_list {xs : List α} (h : EG Γ te (rL R) xs) : IG Γ (iList K te) R xs := fun H0 σ G H Rr h0 s t k => h H0 σ G H _ h0 s t fun v G1 H1 p r => by
  obtain ⟨a, vs, ev, hv, q, z⟩ := r
  refine ⟨a, ev, ⟨vs, sq_of (p.s _ _ hv)⟩, k _ G1 H1 p ?_ z⟩
  rw [← q.length]
  refine (walk_list (K := K) (a := a) (xs := vs)).mono (fun H hs => sq_of (hs _ _ hv)) fun i H w H' hi hs y => ?_
  obtain ⟨e, y⟩ := y
  obtain ⟨b, h1, h2⟩ := q.get' y
  subst e
  exact ⟨b, h1, fun G2 s1 s2 => ⟨G2, Step.refl s2, R.mono s1 h2⟩⟩
theorem ig_range {n : Int} (h : EG Γ te rI n) (hn0 : 0 ≤ n) (hn : n < 100000) : IG Γ (iRng1 (tCons te tNil)) rI ((List.range n.toNat).map fun (m : Nat) => (m : Int)) := fun H0 σ G H Rr h0 s t k => h H0 σ G H _ h0 s t fun v G1 H1 p r => by
  refine ⟨n, by rw [show v = .int n from r], by omega, by omega, k _ G1 H1 p ?_ (by rw [List.length_map, List.length_range]; show n.toNat < 100000; omega)⟩
  have e : ((List.range n.toNat).map fun (m : Nat) => (m : Int)).length = n.toNat := by rw [List.length_map, List.length_range]
  rw [e]
  refine (walk_range (lo := 0) (n := n.toNat)).mono (fun H hs => trivial) fun i H w H' hi hs y => ?_
  obtain ⟨e1, y⟩ := y
  subst e1
  refine ⟨(i : Int), ?_, fun G2 s1 s2 => ⟨G2, Step.refl s2, ?_⟩⟩
  · rw [List.getElem?_map, List.getElem?_range hi]
    rfl
  · exact y.trans (congrArg V.int (Int.zero_add _))
theorem ig_range2 {lo n : Int} (h : EG Γ ta rI lo) (h2 : EG Γ tb rI n) (hl0 : 0 ≤ lo) (hl : lo < 100000) (hn0 : 0 ≤ n) (hn : n < 100000) : IG Γ (iRng2 (tCons ta (tCons tb tNil))) rI ((List.range (n - lo).toNat).map fun (m : Nat) => lo + (m : Int)) := fun H0 σ G H Rr h0 s t k =>
  eg_two h h2 h0 s t fun v w G1 H1 p r1 r2 => by
  refine ⟨lo, n, by rw [show v = .int lo from r1, show w = .int n from r2], ⟨by omega, by omega, by omega, by omega⟩, k _ G1 H1 p ?_ (by rw [List.length_map, List.length_range]; show (n - lo).toNat < 100000; omega)⟩
  have e : ((List.range (n - lo).toNat).map fun (m : Nat) => lo + (m : Int)).length = (n - lo).toNat := by rw [List.length_map, List.length_range]
  rw [e]
  refine (walk_range (lo := lo) (n := (n - lo).toNat)).mono (fun H hs => trivial) fun i H w H' hi hs y => ?_
  obtain ⟨e1, y⟩ := y
  subst e1
  refine ⟨lo + (i : Int), ?_, fun G2 s1 s2 => ⟨G2, Step.refl s2, y⟩⟩
  rw [List.getElem?_map, List.getElem?_range hi]
  rfl
theorem pair_step {G1 G' H : Hp} {T : Addr} {v w : V} {o : α × β} (s1 : Same G' G1) (s2 : Same G1 H) (hT : H T = none) (r1 : R.rel G' v o.1) (r2 : S.rel G' w o.2) : ∃ G2, Step G1 H G2 (upd H T (.tup [v, w])) ∧ (rP R S).rel G2 (.ref T) o :=
  ⟨_, Step.new s2 hT, T, v, w, rfl, upd_same, R.mono (s1.trans (same_new (s2.free hT))) r1, S.mono (s1.trans (same_new (s2.free hT))) r2⟩
theorem zip_at : ∀ {xs : List α} {ys : List β} {i : Nat} {a : α} {b : β}, xs[i]? = some a → ys[i]? = some b → (xs.zip ys)[i]? = some (a, b)
  | [], _, _, _, _, h, _ => by simp at h
  | _ :: _, [], _, _, _, _, h => by simp at h
  | x :: xs, y :: ys, 0, a, b, h1, h2 => by
    simp at h1 h2
    simp [h1, h2]
  | x :: xs, y :: ys, i + 1, a, b, h1, h2 => by
    have := zip_at (xs := xs) (ys := ys) (i := i) (a := a) (b := b) (by simpa using h1) (by simpa using h2)
    simpa using this
theorem ig_zip {xs : List α} {ys : List β} (ha : EG Γ ta (rL R) xs) (hb : EG Γ tb (rL S) ys) : IG Γ (iZip K (tCons ta (tCons tb tNil))) (rP R S) (xs.zip ys) := fun H0 σ G H Rr h0 s t k =>
  eg_two ha hb h0 s t fun v w G1 H1 p r1 r2 => by
  obtain ⟨a, vs, ev, hv, q, z⟩ := r1
  obtain ⟨b, ws, ew, hw, q2, z2⟩ := r2
  refine ⟨a, b, vs, ws, by rw [ev, ew], sq_of (p.s _ _ hv), sq_of (p.s _ _ hw), k _ G1 H1 p ?_ (by rw [List.length_zip]; exact Nat.lt_of_le_of_lt (Nat.min_le_left _ _) z)⟩
  refine (walk_zip (K := K) (a := a) (b := b) (xs := vs) (ys := ws) (n := (xs.zip ys).length) (by rw [List.length_zip, q.length, q2.length])).mono (fun H hs => ⟨sq_of (hs _ _ hv), sq_of (hs _ _ hw)⟩) fun i H u H' hi hs y => ?_
  obtain ⟨T, v1, w1, e1, hT, e2, g1, g2⟩ := y
  obtain ⟨b1, h1, k1⟩ := q.get' g1
  obtain ⟨b2, h2, k2⟩ := q2.get' g2
  subst e1 e2
  exact ⟨(b1, b2), zip_at h1 h2, fun G2 s1 s2 => pair_step s1 s2 hT k1 k2⟩
def enumL (xs : List α) : List (Int × α) := ((List.range xs.length).map fun (m : Nat) => (m : Int)).zip xs
theorem enumL_len (xs : List α) : (enumL xs).length = xs.length := by
  unfold enumL
  rw [List.length_zip, List.length_map, List.length_range, Nat.min_self]
theorem enumL_at {xs : List α} {i : Nat} {a : α} (h : xs[i]? = some a) : (enumL xs)[i]? = some ((i : Int), a) := by
  refine zip_at ?_ h
  rw [List.getElem?_map, List.getElem?_range (List.getElem?_eq_some_iff.mp h).1]
  rfl
theorem ig_enum {xs : List α} (ha : EG Γ ta (rL R) xs) : IG Γ (iEnum K (tCons ta tNil)) (rP rI R) (enumL xs) := fun H0 σ G H Rr h0 s t k =>
  ha H0 σ G H _ h0 s t fun v G1 H1 p r1 => by
  obtain ⟨a, vs, ev, hv, q, z⟩ := r1
  refine ⟨a, vs, by rw [ev], sq_of (p.s _ _ hv), k _ G1 H1 p ?_ (by rw [enumL_len]; exact z)⟩
  rw [enumL_len, ← q.length]
  refine (walk_enum (K := K) (a := a) (xs := vs)).mono (fun H hs => sq_of (hs _ _ hv)) fun i H u H' hi hs y => ?_
  obtain ⟨T, v1, w1, e1, hT, e2, g1, g2⟩ := y
  obtain ⟨b2, h2, k2⟩ := q.get' g2
  subst e1 e2
  exact ⟨((i : Int), b2), enumL_at h2, fun G2 s1 s2 => pair_step (R := rI) s1 s2 hT (Option.some.inj g1).symm k2⟩
/-! ### targets -/
def GT (Γ : List Sl) (g : TG) (ws : List Nat) (R : RT α) (x : α) (Γ' : List Sl) : Prop := ∀ (H0 : Hp) (σ : L2.St) (G H : Hp) (v : V) (Q : L2.St → Hp → Prop), Ty H0 Γ σ G H → Same G H → R.rel G v x → (∀ σ', Ty H0 Γ' σ' G H → (ws ≠ [] → L2.wipe σ' ws = L2.wipe σ ws) → Q σ' H) → g v σ H Q
theorem set_comm0 {A : Type} (l : List A) (i j : Nat) (a b : A) (h : i ≠ j) : (l.set i a).set j b = (l.set j b).set i a := List.set_comm _ _ h
theorem wipe_set {σ : L2.St} {i : Nat} {o : Option V} : ∀ {ws : List Nat}, i ∈ ws → L2.wipe (σ.set i o) ws = L2.wipe σ ws
  | [], h => by simp at h
  | w :: ws, h => by
    show (L2.wipe (σ.set i o) ws).set w none = (L2.wipe σ ws).set w none
    by_cases hi : i ∈ ws
    · rw [wipe_set hi]
    · have e : i = w := by
        rcases List.mem_cons.mp h with e | e
        · exact e
        · exact absurd e hi
      subst e
      have : ∀ us : List Nat, i ∉ us → L2.wipe (σ.set i o) us = (L2.wipe σ us).set i o := by
        intro us
        induction us with
        | nil => intro _; rfl
        | cons u us ih =>
          intro hu
          have h1 : i ≠ u := fun e => hu (by rw [e]; exact List.mem_cons_self ..)
          have h2 : i ∉ us := fun e => hu (List.mem_cons_of_mem _ e)
          show (L2.wipe (σ.set i o) us).set u none = ((L2.wipe σ us).set u none).set i o
          rw [ih h2, set_comm0 _ _ _ _ _ h1]
      rw [this ws hi, List.set_set]
theorem wipe_wipe {σ : L2.St} : ∀ {ws us : List Nat}, (∀ u ∈ us, u ∈ ws) → L2.wipe (L2.wipe σ us) ws = L2.wipe σ ws
  | _, [], _ => rfl
  | ws, u :: us, h => by
    show L2.wipe ((L2.wipe σ us).set u none) ws = _
    rw [wipe_set (h u (List.mem_cons_self ..))]
    exact wipe_wipe fun v hv => h v (List.mem_cons_of_mem _ hv)
theorem gt_name {n : Nat} {ws : List Nat} (hw : n ∈ ws) : GT Γ (gName n) ws R x (st Γ n (.im R x)) := fun H0 σ G H v Q t s r k => k _ (t.set_im r) fun _ => wipe_set hw
theorem gt_pair {g1 g2 : TG} {ws : List Nat} {o : α × β} {Γ1 Γ2 : List Sl} (h1 : GT Γ g1 ws R o.1 Γ1) (h2 : GT Γ1 g2 ws S o.2 Γ2) : GT Γ (gTup K 2 (gCons g1 (gCons g2 gNil))) ws (rP R S) o Γ2 := fun H0 σ G H v Q t s r k => by
  obtain ⟨a, v1, v2, ev, hv, q1, q2⟩ := r
  refine ⟨a, [v1, v2], ev, st_of (s _ _ hv), rfl, v1, [v2], rfl, h1 H0 σ G H v1 _ t s q1 fun σ1 t1 w1 => ⟨v2, [], rfl, h2 H0 σ1 G H v2 _ t1 s q2 fun σ2 t2 w2 => ⟨rfl, k σ2 t2 fun e => (w2 e).trans (w1 e)⟩⟩⟩
/-! ### comprehensions -/
theorem take_succ' {l : List α} {n : Nat} {a : α} (h : l[n]? = some a) : l.take (n + 1) = l.take n ++ [a] := by
  rw [List.take_add_one, h]
  rfl
theorem filter_len_take (xs : List α) (p : α → Bool) (n : Nat) : ((xs.take n).filter p).length ≤ xs.length := by
  refine Nat.le_trans (List.length_filter_le _ _) ?_
  rw [List.length_take]
  omega
theorem en_lcF {wi : TI} {g : TG} {vs : List Nat} {xs : List α} (p : α → Bool) (f : α → β) (hi : IG Γ wi R xs) (hv : vs ≠ [])
    (hb : ∀ (n : Nat) (a : α), xs[n]? = some a → ∃ Γ', GT (wp Γ vs) g vs R a Γ' ∧ ET Γ' tt (p a) ∧ (p a = true → EG Γ' te S (f a))) : EN Γ (tLc wi g tt te vs) S ((xs.filter p).map f) := fun H0 σ G H Q h0 s t k => by
  refine hi H0 σ G H _ h0 s t fun J G1 H1 st1 w hz => ?_
  intro D hD
  have nG : G1 D = none := st1.s.free hD
  have mutD : ∀ {G2 H2 : Hp} {o : HO}, Step G1 H1 G2 H2 → G2 D = none → Step G1 H1 G2 (upd H2 D o) := fun {G2 H2 o} p n =>
    ⟨p.g, same_out p.s n, fun b u e => by
      rw [upd_ne (ne_of_none e hD)]
      exact p.h b u e, p.f⟩
  refine lc_it w (Pv := fun n H' => ∃ G2 acc, Step G1 H1 G2 H' ∧ G2 D = none ∧ H' D = some (.lst acc) ∧ All2 (S.rel G2) acc (((xs.take n).filter p).map f)) ?_ ?_ ?_ ?_
  · exact ⟨G1, [], Step.newO st1.s hD, nG, upd_same, .nil⟩
  · rintro n H' hn ⟨G2, acc, st2, n2, h2, a⟩
    exact st2.g.trans st2.s
  · rintro n v H' H'' hn ⟨G2, acc, st2, n2, h2, a⟩ ⟨b, hb1, hb2⟩
    obtain ⟨G3, st3, r3⟩ := hb2 G2 st2.g st2.s
    obtain ⟨Γ', hg, ht, he⟩ := hb n b hb1
    have st13 := st2.trans st3
    have t3 : Ty H0 (wp Γ vs) (L2.wipe σ vs) G3 H'' := Ty.wipe ((t.step st1).step st13) vs
    have h03 : Same H0 H'' := (h0.trans st1.h).trans st13.h
    have n3 : G3 D = none := st3.f D (by rw [h2]; exact fun z => nomatch z) n2
    refine hg H0 _ G3 H'' v _ t3 st13.s r3 fun σ2 t4 hw => ⟨?_, ?_⟩
    · rw [hw hv]
      exact wipe_wipe fun u hu => hu
    · refine ht H0 σ2 G3 H'' _ h03 st13.s t4 fun G5 H5 st5 => ?_
      have n5 : G5 D = none := st5.f D (by rw [st3.h _ _ h2]; exact fun z => nomatch z) n3
      have s15 := st13.trans st5
      cases hp : p b with
      | true =>
        refine iteT ?_
        refine he hp H0 σ2 G5 H5 _ (h03.trans st5.h) st5.s (t4.step st5) fun y G6 H6 st6 r6 => ?_
        have s16 := s15.trans st6
        have n6 : G6 D = none := st6.f D (by rw [st5.h _ _ (st3.h _ _ h2)]; exact fun z => nomatch z) n5
        have la : acc.length < big := by
          rw [a.length, List.length_map]
          exact Nat.lt_of_le_of_lt (filter_len_take xs p n) hz
        refine ⟨acc, st6.h _ _ (st5.h _ _ (st3.h _ _ h2)), big_line la, G6, acc ++ [y], mutD s16 n6, n6, upd_same, ?_⟩
        rw [take_succ' hb1, List.filter_append, List.map_append, List.filter_cons, if_pos hp]
        exact (a.mono fun _ _ q => S.mono ((st3.g.trans st5.g).trans st6.g) q).append (.cons r6 .nil)
      | false =>
        refine iteF ?_
        refine ⟨G5, acc, s15, n5, st5.h _ _ (st3.h _ _ h2), ?_⟩
        rw [take_succ' hb1, List.filter_append, List.map_append, List.filter_cons, if_neg (by rw [hp]; decide)]
        show All2 (S.rel G5) acc (_ ++ [])
        rw [List.append_nil]
        exact a.mono fun _ _ q => S.mono (st3.g.trans st5.g) q
  · rintro H' ⟨G2, acc, st2, n2, h2, a⟩
    rw [List.take_of_length_le (Nat.le_refl _)] at a
    refine k D acc G2 H' (st1.trans st2) (st1.h.free hD) n2 h2 a ?_
    rw [List.length_map]
    exact Nat.lt_of_le_of_lt (List.length_filter_le _ _) hz
theorem et_yes : ET Γ tYes true := fun H0 σ G H Q h0 s t k => k G H (Step.refl s)
theorem en_lc {wi : TI} {g : TG} {vs : List Nat} {xs : List α} {f : α → β} (hi : IG Γ wi R xs) (hv : vs ≠ [])
    (hb : ∀ (n : Nat) (a : α), xs[n]? = some a → ∃ Γ', GT (wp Γ vs) g vs R a Γ' ∧ EG Γ' te S (f a)) : EN Γ (tLc wi g tYes te vs) S (xs.map f) := by
  have e : xs.filter (fun _ => true) = xs := List.filter_eq_self.mpr fun _ _ => rfl
  have h := en_lcF (Γ := Γ) (tt := tYes) (te := te) (S := S) (g := g) (vs := vs) (fun _ => true) f hi hv fun n a ha => by
    obtain ⟨Γ', h1, h2⟩ := hb n a ha
    exact ⟨Γ', h1, et_yes, fun _ => h2⟩
  rw [e] at h
  exact h
end
end TW
set_option Elab.async false
set_option linter.all false
set_option maxRecDepth 100000
set_option maxHeartbeats 4000000
/-! Statements over typed slots (Sg), loops, promises of defs, calls. -/
namespace TW
open PySem PySem.Spec PyProof.Rows L2
def Up (P : Hp → Prop) : Prop := ∀ G G', Same G G' → P G → P G'
def Stt (G0 H0 : Hp) (P : Hp → Prop) (Γ : List Sl) (σ : L2.St) (H : Hp) : Prop := ∃ G, Step G0 H0 G H ∧ P G ∧ Ty H0 Γ σ G H
def Sg (G0 H0 : Hp) (P : Hp → Prop) (Γ : List Sl) (t : TS) (D : Ends) : Prop := ∀ σ H, Stt G0 H0 P Γ σ H → t D σ H
def Nx (G0 H0 : Hp) (P : Hp → Prop) (Γ : List Sl) (D : Ends) : Prop := ∀ σ H, Stt G0 H0 P Γ σ H → D.nx σ H
section
variable {α β γ δ : Type} {Γ Γ' : List Sl} {ta tb tc te tl : TE} {tt : TT} {R : RT α} {S : RT β} {U : RT γ} {x : α} {y : β} {z : γ} {K : PySem.W.Frag} {G0 H0 : Hp} {P : Hp → Prop} {D : Ends} {t u : TS}
theorem nx_of (h : D.nx = Stt G0 H0 P Γ') (w : Wk Γ Γ') : Nx G0 H0 P Γ D := fun σ H ⟨G, p, q, ty⟩ => by
  rw [h]
  exact ⟨G, p, q, ty.weak w⟩
theorem sg_seq (h : Sg G0 H0 P Γ t { D with nx := u D }) : Sg G0 H0 P Γ (tSeq t u) D := h
theorem sg_weak (w : Wk Γ Γ') (h : Sg G0 H0 P Γ' t D) : Sg G0 H0 P Γ t D := fun σ H ⟨G, p, q, ty⟩ => h σ H ⟨G, p, q, ty.weak w⟩
theorem sg_cast {Γ' : List Sl} (e : Γ = Γ') (h : Sg G0 H0 P Γ' t D) : Sg G0 H0 P Γ t D := e ▸ h
theorem sg_next (h : Nx G0 H0 P Γ D) : Sg G0 H0 P Γ tNext D := h
theorem sg_asg {n : Nat} (hu : Up P) (h : EG Γ te R x) (k : Nx G0 H0 P (st Γ n (.im R x)) D) : Sg G0 H0 P Γ (tAsg te (gName n)) D := fun σ H ⟨G, p, q, ty⟩ =>
  h H0 σ G H _ p.h p.s ty fun v G' H' p2 r => k _ _ ⟨G', p.trans p2, hu _ _ p2.g q, (ty.step p2).set_im r⟩
/-- a new list of one's own -/
theorem sg_own {n : Nat} {xs : List α} (hu : Up P) (hn : n < Γ.length) (h : EN Γ te R xs) (k : Nx G0 H0 P (st Γ n (.own R xs)) D) : Sg G0 H0 P Γ (tAsg te (gName n)) D := fun σ H ⟨G, p, q, ty⟩ =>
  h H0 σ G H _ p.h p.s ty fun l vs G' H' p2 hl hg hh a z => by
    refine k _ _ ⟨G', p.trans p2, hu _ _ p2.g q, ?_⟩
    have h0 : H0 l = none := p.h.free hl
    have ty2 := ty.step p2
    -- the state without the new list
    let H1 : Hp := fun b => if b = l then none else H' b
    have e1 : upd H1 l (.lst vs) = H' := by
      funext b
      by_cases hb : b = l
      · rw [hb, upd_same, hh]
      · rw [upd_ne hb]
        exact if_neg hb
    have ty3 : Ty H0 Γ σ G' H1 := ⟨ty2.len, fun i => by
      have w := ty2.at_ i
      have w0 := ty.at_ i
      revert w w0
      cases gt Γ i with
      | no => exact fun _ _ => trivial
      | im R x => exact fun w _ => w
      | own R xs =>
        rintro ⟨l', vs', e', h0', hg', hh', a', z'⟩ ⟨l2, vs2, e2, _, _, hh2, _, _⟩
        rw [e'] at e2
        cases e2
        have nl : l' ≠ l := fun w => by rw [w, hl] at hh2; cases hh2
        exact ⟨l', vs', e', h0', hg', (if_neg nl).trans hh', a', z'⟩, ty2.ap⟩
    have sm : Same G' H1 := fun b o e => by
      have nb : b ≠ l := fun w => by rw [w, hg] at e; cases e
      exact (if_neg nb).trans (p2.s _ _ e)
    have := ty3.set_own hn sm h0 (if_pos rfl) a z
    rw [e1] at this
    exact this
theorem sg_freeze {n : Nat} {xs : List α} (hu : Up P) (hi : gt Γ n = .own R xs) (h : Sg G0 H0 P (st Γ n (.im (rL R) xs)) t D) : Sg G0 H0 P Γ t D := fun σ H ⟨G, p, q, ty⟩ => by
  have w := ty.at_ n
  rw [hi] at w
  obtain ⟨l, vs, e, h0, hg, hh, a, z⟩ := w
  exact h σ H ⟨upd G l (.lst vs), p.froz h0 hg hh, hu _ _ (same_new hg) q, ty.freeze hi e hh hg a z⟩
theorem sg_ret (h : EG Γ te R x) (k : ∀ v G H, Step G0 H0 G H → R.rel G v x → D.rt v H) : Sg G0 H0 P Γ (tRet te) D := fun σ H ⟨G, p, q, ty⟩ =>
  h H0 σ G H _ p.h p.s ty fun v G' H' p2 r => k v G' H' (p.trans p2) r
theorem sg_if {b : Bool} (hu : Up P) (h : ET Γ tt b) (h1 : b = true → Sg G0 H0 P Γ t D) (h2 : b = false → Sg G0 H0 P Γ u D) : Sg G0 H0 P Γ (tIfS tt t u) D := fun σ H ⟨G, p, q, ty⟩ =>
  h H0 σ G H _ p.h p.s ty fun G' H' p2 => by
    cases b with
    | true => exact iteT (h1 rfl σ H' ⟨G', p.trans p2, hu _ _ p2.g q, ty.step p2⟩)
    | false => exact iteF (h2 rfl σ H' ⟨G', p.trans p2, hu _ _ p2.g q, ty.step p2⟩)
/-- the way that is not gone -/
theorem sg_ifF {b : Bool} (hu : Up P) (h : ET Γ tt b) (hb : b = false) (h2 : Sg G0 H0 P Γ u D) : Sg G0 H0 P Γ (tIfS tt t u) D := sg_if hu h (fun e => by rw [hb] at e; cases e) fun _ => h2
theorem sg_ifT {b : Bool} (hu : Up P) (h : ET Γ tt b) (hb : b = true) (h1 : Sg G0 H0 P Γ t D) : Sg G0 H0 P Γ (tIfS tt t u) D := sg_if hu h (fun _ => h1) fun e => by rw [hb] at e; cases e
/-- a, b = e1, e2 -/
theorem sg_par {m n : Nat} (hu : Up P) (h1 : EG Γ ta R x) (h2 : EG Γ tb S y) (k : Nx G0 H0 P (st (st Γ m (.im R x)) n (.im S y)) D) : Sg G0 H0 P Γ (tPar m n (tCons ta (tCons tb tNil))) D := fun σ H ⟨G, p, q, ty⟩ =>
  eg_two h1 h2 p.h p.s ty fun v w G' H' p2 r1 r2 => ⟨v, w, rfl, k _ _ ⟨G', p.trans p2, hu _ _ p2.g q, ((ty.step p2).set_im r1).set_im r2⟩⟩
/-- a, b = e, a pair -/
theorem sg_pair {m n : Nat} {o : α × β} (hu : Up P) (h : EG Γ te (rP R S) o) (k : Nx G0 H0 P (st (st Γ m (.im R o.1)) n (.im S o.2)) D) : Sg G0 H0 P Γ (tAsg te (gTup K 2 (gCons (gName m) (gCons (gName n) gNil)))) D := fun σ H ⟨G, p, q, ty⟩ =>
  h H0 σ G H _ p.h p.s ty fun v G' H' p2 r => by
    obtain ⟨a, v1, v2, ev, hv, q1, q2⟩ := r
    exact ⟨a, [v1, v2], ev, st_of (p2.s _ _ hv), rfl, v1, [v2], rfl, v2, [], rfl, rfl, k _ _ ⟨G', p.trans p2, hu _ _ p2.g q, ((ty.step p2).set_im q1).set_im q2⟩⟩
theorem sg_append {n : Nat} {xs : List α} (hu : Up P) (hi : gt Γ n = .own R xs) (h : EG Γ te R x) (z : xs.length + 1 < big) (k : Nx G0 H0 P (st Γ n (.own R (xs ++ [x]))) D) : Sg G0 H0 P Γ (tDrop (tBM K "list" rAppend (tVar n) (tCons te tNil))) D := fun σ H ⟨G, p, q, ty⟩ => by
  have w := ty.at_ n
  rw [hi] at w
  obtain ⟨l, vs, e, h0, hg, hh, a, _⟩ := w
  refine ⟨.ref l, e, .inl ⟨rfl, _, sq_of hh⟩, h H0 σ G H _ p.h p.s ty fun v G' H' p2 r => ?_⟩
  have hh' := p2.h _ _ hh
  have hg' : G' l = none := p2.f l (by rw [hh]; exact fun z => nomatch z) hg
  refine ⟨l, vs, v, rfl, rfl, hh', big_line (by rw [a.length]; omega), k _ _ ⟨G', ?_, hu _ _ p2.g q, ?_⟩⟩
  · have p3 := p.trans p2
    exact ⟨p3.g, same_out p3.s hg', fun b o eb => by
      rw [upd_ne (ne_of_none eb h0)]
      exact p3.h _ _ eb, p3.f⟩
  · exact (ty.step p2).chg_own hi e ((a.mono fun _ _ q => R.mono p2.g q).append (.cons r .nil)) (by rw [List.length_append]; exact z)
theorem sg_extend {n : Nat} {xs ys : List α} (hu : Up P) (hi : gt Γ n = .own R xs) (h : EG Γ te (rL R) ys) (z : xs.length + ys.length < big) (k : Nx G0 H0 P (st Γ n (.own R (xs ++ ys))) D) : Sg G0 H0 P Γ (tDrop (tBM K "list" rExtend (tVar n) (tCons te tNil))) D := fun σ H ⟨G, p, q, ty⟩ => by
  have w := ty.at_ n
  rw [hi] at w
  obtain ⟨l, vs, e, h0, hg, hh, a, _⟩ := w
  refine ⟨.ref l, e, .inl ⟨rfl, _, sq_of hh⟩, h H0 σ G H _ p.h p.s ty fun v G' H' p2 r => ?_⟩
  have hh' := p2.h _ _ hh
  have hg' : G' l = none := p2.f l (by rw [hh]; exact fun z => nomatch z) hg
  obtain ⟨b, ws, eb, hb, a2, _⟩ := r
  refine ⟨l, b, vs, ws, rfl, by rw [eb], hh', p2.s _ _ hb, Nat.le_of_lt (big_line (by rw [a.length, a2.length]; exact z)), k _ _ ⟨G', ?_, hu _ _ p2.g q, ?_⟩⟩
  · have p3 := p.trans p2
    exact ⟨p3.g, same_out p3.s hg', fun b o eb => by
      rw [upd_ne (ne_of_none eb h0)]
      exact p3.h _ _ eb, p3.f⟩
  · exact (ty.step p2).chg_own hi e ((a.mono fun _ _ q => R.mono p2.g q).append a2) (by rw [List.length_append]; exact z)
theorem sg_set {n j : Nat} {i : Int} {xs : List α} (hu : Up P) (hi : gt Γ n = .own R xs) (h : EG Γ te R x) (hx : EG Γ ta rI i) (hj : ixN xs.length i = some j) (k : Nx G0 H0 P (st Γ n (.own R (xs.set j x))) D) : Sg G0 H0 P Γ (tAsg te (gSub (tVar n) ta rSetL)) D := fun σ H ⟨G, p, q, ty⟩ => by
  refine h H0 σ G H _ p.h p.s ty fun v G' H' p2 r => ?_
  have ty2 := ty.step p2
  have w := ty2.at_ n
  rw [hi] at w
  obtain ⟨l, vs, e, h0, hg, hh, a, zz⟩ := w
  refine ⟨.ref l, e, hx H0 σ G' H' _ (p.trans p2).h p2.s ty2 fun w G2 H2 p3 r3 => ?_⟩
  have hg2 : G2 l = none := p3.f l (by rw [hh]; exact fun z => nomatch z) hg
  refine ⟨l, vs, i, j, rfl, r3, p3.h _ _ hh, by rw [a.length]; exact hj, k _ _ ⟨G2, ?_, hu _ _ (p2.g.trans p3.g) q, ?_⟩⟩
  · have p4 := (p.trans p2).trans p3
    exact ⟨p4.g, same_out p4.s hg2, fun b o eb => by
      rw [upd_ne (ne_of_none eb h0)]
      exact p4.h _ _ eb, p4.f⟩
  · exact (ty2.step p3).chg_own hi e ((a.mono fun _ _ q => R.mono p3.g q).set (R.mono p3.g r) j) (by rw [List.length_set]; exact zz)
/-! ### loops -/
theorem up_and {P : Hp → Prop} (hu : Up P) (G1 : Hp) : Up (fun G => P G ∧ Same G1 G) := fun _ _ s h => ⟨hu _ _ s h.1, h.2.trans s⟩
theorem sg_for {wi : TI} {g : TG} {xs : List α} (hu : Up P) (hi : IG Γ wi R xs) (Γi : Nat → List Sl) (w0 : Wk Γ (Γi 0))
    (hb : ∀ (n : Nat) (a : α) (P' : Hp → Prop), Up P' → xs[n]? = some a → ∃ Γ', GT (Γi n) g [] R a Γ' ∧ Sg G0 H0 P' Γ' t { D with nx := Stt G0 H0 P' (Γi (n + 1)), ct := Stt G0 H0 P' (Γi (n + 1)), bk := D.nx })
    (k : Nx G0 H0 P (Γi xs.length) D) : Sg G0 H0 P Γ (tFor wi g t) D := fun σ H ⟨G, p, q, ty⟩ => by
  refine hi H0 σ G H _ p.h p.s ty fun J G1 H1 st1 w _ => ?_
  let P' : Hp → Prop := fun G => P G ∧ Same G1 G
  have hP' : Up P' := up_and hu G1
  refine for_it w (Pv := fun n σ' H' => Stt G0 H0 P' (Γi n) σ' H') ⟨G1, p.trans st1, ⟨hu _ _ st1.g q, Same.refl _⟩, (ty.step st1).weak w0⟩ ?_ ?_ ?_
  · rintro n σ' H' _ ⟨G2, p2, q2, _⟩
    exact q2.2.trans p2.s
  · rintro n v σ' H' H'' hn ⟨G2, p2, q2, ty2⟩ ⟨b, hb1, hb2⟩
    obtain ⟨G3, st3, r3⟩ := hb2 G2 q2.2 p2.s
    obtain ⟨Γ', hg, hs⟩ := hb n b P' hP' hb1
    exact hg H0 σ' G3 H'' v _ (ty2.step st3) st3.s r3 fun σ2 t4 _ => hs σ2 H'' ⟨G3, p2.trans st3, hP' _ _ st3.g q2, t4⟩
  · rintro σ' H' ⟨G2, p2, q2, ty2⟩
    exact k σ' H' ⟨G2, p2, q2.1, ty2⟩
/-- for loops: a target that is a name | a pair of names -/
theorem gl_name {n : Nat} : GT Γ (gName n) [] R x (st Γ n (.im R x)) := fun H0 σ G H v Q t s r k => k _ (t.set_im r) fun e => absurd rfl e
theorem gl_pair {m n : Nat} {o : α × β} : GT Γ (gTup K 2 (gCons (gName m) (gCons (gName n) gNil))) [] (rP R S) o (st (st Γ m (.im R o.1)) n (.im S o.2)) := gt_pair gl_name gl_name
/-- while, by a measure -/
theorem sg_while (hu : Up P) (A : Type) (Γi : A → List Sl) (μ : A → Nat) (a0 : A) (w0 : Wk Γ (Γi a0))
    (hb : ∀ a : A, ∃ b, ET (Γi a) tt b ∧ (b = true → ∃ a', μ a' < μ a ∧ Sg G0 H0 P (Γi a) t { D with nx := Stt G0 H0 P (Γi a'), ct := Stt G0 H0 P (Γi a'), bk := D.nx }) ∧ (b = false → Nx G0 H0 P (Γi a) D)) : Sg G0 H0 P Γ (tWhile tt t) D := fun σ H ⟨G, p, q, ty⟩ => by
  refine ⟨fun m σ' H' => ∃ a, μ a = m ∧ Stt G0 H0 P (Γi a) σ' H', ⟨_, a0, rfl, G, p, q, ty.weak w0⟩, ?_⟩
  rintro m σ' H' ⟨a, rfl, G2, p2, q2, ty2⟩
  obtain ⟨b, h1, h2, h3⟩ := hb a
  refine h1 H0 σ' G2 H' _ p2.h p2.s ty2 fun G3 H3 st3 => ?_
  have s3 : Stt G0 H0 P (Γi a) σ' H3 := ⟨G3, p2.trans st3, hu _ _ st3.g q2, ty2.step st3⟩
  cases b with
  | true =>
    obtain ⟨a', hm, hs⟩ := h2 rfl
    exact iteT ⟨_, fun σ4 H4 s4 => ⟨_, hm, a', rfl, s4⟩, hs σ' H3 s3⟩
  | false => exact iteF (h3 rfl σ' H3 s3)
/-- a list's length has its bound -/
theorem sg_len {n : Nat} {xs : List α} (hi : gt Γ n = .im (rL R) xs) (h : xs.length < big → Sg G0 H0 P Γ t D) : Sg G0 H0 P Γ t D := fun σ H ⟨G, p, q, ty⟩ => by
  have w := ty.at_ n
  rw [hi] at w
  obtain ⟨v, e, a, vs, ev, hv, r, z⟩ := w
  exact h z σ H ⟨G, p, q, ty⟩
theorem sg_lenO {n : Nat} {xs : List α} (hi : gt Γ n = .own R xs) (h : xs.length < big → Sg G0 H0 P Γ t D) : Sg G0 H0 P Γ t D := fun σ H ⟨G, p, q, ty⟩ => by
  have w := ty.at_ n
  rw [hi] at w
  obtain ⟨l, vs, e, h0, hg, hh, a, z⟩ := w
  exact h z σ H ⟨G, p, q, ty⟩
/-! ### promises -/
def sp1 (R : RT α) (A : α → Prop) (S : RT β) (f : α → β) : Sp := fun vs H Q _ => ∃ v x G, vs = [v] ∧ Same G H ∧ R.rel G v x ∧ A x ∧ ∀ u G' H', Step G H G' H' → S.rel G' u (f x) → Q u H'
def sp2 (R : RT α) (S : RT β) (A : α → β → Prop) (U : RT γ) (f : α → β → γ) : Sp := fun vs H Q _ => ∃ v w x y G, vs = [v, w] ∧ Same G H ∧ R.rel G v x ∧ S.rel G w y ∧ A x y ∧ ∀ u G' H', Step G H G' H' → U.rel G' u (f x y) → Q u H'
def sp3 (R : RT α) (S : RT β) (U : RT γ) (A : α → β → γ → Prop) (W : RT δ) (f : α → β → γ → δ) : Sp := fun vs H Q _ => ∃ v w r x y z G, vs = [v, w, r] ∧ Same G H ∧ R.rel G v x ∧ S.rel G w y ∧ U.rel G r z ∧ A x y z ∧ ∀ u G' H', Step G H G' H' → W.rel G' u (f x y z) → Q u H'
theorem eg_call1 {A : α → Prop} {f : α → β} {E : XK} (h : EG Γ ta R x) (c : A x) : EG Γ (tCall (sp1 R A S f) [] E (tCons ta tNil)) S (f x) := fun H0 σ G H Q h0 s t k =>
  h H0 σ G H _ h0 s t fun v G' H' p r => ⟨v, x, G', rfl, p.s, r, c, fun u G2 H2 p2 r2 => k u G2 H2 (p.trans p2) r2⟩
theorem eg_call2 {A : α → β → Prop} {f : α → β → γ} {E : XK} (h : EG Γ ta R x) (h2 : EG Γ tb S y) (c : A x y) : EG Γ (tCall (sp2 R S A U f) [] E (tCons ta (tCons tb tNil))) U (f x y) := fun H0 σ G H Q h0 s t k =>
  eg_two h h2 h0 s t fun v w G' H' p r r2 => ⟨v, w, x, y, G', rfl, p.s, r, r2, c, fun u G2 H2 p2 r2 => k u G2 H2 (p.trans p2) r2⟩
theorem eg_call3 {A : α → β → γ → Prop} {W : RT δ} {f : α → β → γ → δ} {E : XK} (h : EG Γ ta R x) (h2 : EG Γ tb S y) (h3 : EG Γ tc U z) (c : A x y z) : EG Γ (tCall (sp3 R S U A W f) [] E (tCons ta (tCons tb (tCons tc tNil)))) W (f x y z) := fun H0 σ G H Q h0 s t k =>
  h H0 σ G H _ h0 s t fun v1 G1 H1 p1 r1 => h2 H0 σ G1 H1 _ (h0.trans p1.h) p1.s (t.step p1) fun v2 G2 H2 p2 r2 => h3 H0 σ G2 H2 _ (h0.trans (p1.trans p2).h) p2.s (t.step (p1.trans p2)) fun v3 G3 H3 p3 r3 =>
    ⟨v1, v2, v3, x, y, z, G3, rfl, p3.s, R.mono (p2.g.trans p3.g) r1, S.mono p3.g r2, r3, c, fun u G4 H4 p4 r4 => k u G4 H4 (((p1.trans p2).trans p3).trans p4) r4⟩
/-! ### a def of the text keeps its promise -/
def nos : Nat → List Sl
  | 0 => []
  | n + 1 => .no :: nos n
theorem nos_len : ∀ n, (nos n).length = n
  | 0 => rfl
  | n + 1 => congrArg Nat.succ (nos_len n)
theorem gt_nos : ∀ n i, gt (nos n) i = .no
  | 0, _ => rfl
  | _ + 1, 0 => rfl
  | n + 1, i + 1 => gt_nos n i
/-- the slots at the entry -/
inductive Ini (G : Hp) : List V → List Sl → Prop
  | nil (n : Nat) : Ini G [] (nos n)
  | cons {v : V} {vs : List V} {Γ : List Sl} {α : Type} {R : RT α} {x : α} : R.rel G v x → Ini G vs Γ → Ini G (v :: vs) (.im R x :: Γ)
theorem Ini.len {G : Hp} : ∀ {vs : List V} {Γ : List Sl}, Ini G vs Γ → vs.length ≤ Γ.length
  | _, _, .nil _ => Nat.zero_le _
  | _, _, .cons _ t => Nat.succ_le_succ t.len
theorem Ini.noown {G : Hp} : ∀ {vs : List V} {Γ : List Sl}, Ini G vs Γ → ∀ i, isOwn (gt Γ i) = false
  | _, _, .nil n, i => by rw [gt_nos]; rfl
  | _, _, .cons _ t, 0 => rfl
  | _, _, .cons _ t, i + 1 => t.noown i
theorem Ini.ok {G H0 H : Hp} {tl : L2.St} : ∀ {vs : List V} {Γ : List Sl}, Ini G vs Γ → ∀ i, SlOk H0 G H (vs.map some ++ tl)[i]? (gt Γ i)
  | _, _, .nil n, i => by rw [gt_nos]; trivial
  | _, _, .cons r t, 0 => ⟨_, rfl, r⟩
  | _, _, .cons r t, i + 1 => t.ok i
theorem Ini.ty {G H : Hp} {N : List Str} {vs : List V} {Γ : List Sl} (h : Ini G vs Γ) (e : Γ.length = N.length) : Ty H Γ (L2.start N vs) G H := by
  refine ⟨?_, h.ok, fun i j l hi => ?_⟩
  · unfold L2.start
    have := h.len
    rw [List.length_append, List.length_map, List.length_replicate]
    omega
  · rw [h.noown i] at hi
    cases hi
end
end TW
set_option Elab.async false
set_option linter.all false
set_option maxRecDepth 100000
set_option maxHeartbeats 4000000
/-! // and lcm of ints of any size: nothing hinders the interpreter's own way of dividing great ints. -/
namespace TW
open PySem PySem.Spec PyProof.Rows L2
/-- what of the base is asked -/
structure Seer0 (mg : Str → Option Value) (base : Heap) : Prop where
  st : ∃ mc, base.Ns cStatics mc ∧ mc "sys.audit-hooks" = none ∧ mc "sys.dict" = none
  md : ∃ mm, base.Ns sysModules mm ∧ mm "_pylong" = none
  mn : ∃ bm ob, mg "__builtins__" = some (.ref bm) ∧ base.get? bm = some ob ∧ ob.cls = .type "module" ∧ ob.dict = some builtinsNs
/-- .. and of the place in the text -/
structure SeerX (X : Cx) : Prop where
  b : Seer0 X.mg X.base
  tree : X.prog.given.tree = none
  fr : ∃ env l, X.stack = env :: l ∧ env.scope.isGenerator = false ∧ env.scope.isCoroutine = false ∧ env.builtins = builtinsNs ∧ env.globals = mainGlobals
  dp : X.A.depth + Builtin.pylongFrames < recursionLimit
section
variable {X : Cx}
theorem SeerX.at_ (S : SeerX X) {pins : List (Addr × Obj)} {σ : L2.St} {H : Hp} {s : Shared} (I : Inv X pins σ H s) : SeerAt (model X.prog X.w) X.A s.heap := by
  obtain ⟨env, l, e, h1, h2, h3, h4⟩ := S.fr
  have k := I.bk
  obtain ⟨mc, n1, a1, a2⟩ := S.b.st
  obtain ⟨mm, n2, b1⟩ := S.b.md
  obtain ⟨bm, ob, c1, c2, c3, c4⟩ := S.b.mn
  refine SeerAt.of (env := env) (l := l) ⟨⟨mc, n1.keepsP k, a1, a2⟩, ⟨mm, n2.keepsP k, b1⟩, ?_, ⟨X.mg, bm, ob, I.mod.glob.keepsP k, c1, k _ _ c2, c3, c4⟩⟩ S.tree (by rw [I.ok.frames, e]) h1 h2 h3 h4
  obtain ⟨mb, d1, d2⟩ := I.mod.blt
  exact ⟨mb, d1.keepsP k, d2⟩
theorem SeerX.room (S : SeerX X) {pins : List (Addr × Obj)} {σ : L2.St} {H : Hp} {s : Shared} (I : Inv X pins σ H s) : PylongRoom (model X.prog X.w) X.A s := PylongRoom.of I.nolimit S.dp (S.at_ I)
theorem op_fdivP (S : SeerX X) : OpR X (binaryOp .FloorDiv) (L2.rI (fun _ j => j ≠ 0) fun i j => .int (i.fdiv j)) := by
  intro pins s σ H x y v u Q I rx ry h
  obtain ⟨i, j, rfl, rfl, hc, q⟩ := h
  obtain ⟨t, rfl⟩ := rx
  obtain ⟨t', rfl⟩ := ry
  exact floordiv_int hc ⟨.int (i.fdiv j), H, I.tok _, ⟨_, rfl⟩, q⟩ (.inr (S.room I))
/-- a factor's size -/
def Sm (i : Int) : Prop := i.natAbs < 2 ^ 60000000
theorem log2_lt_w {n a : Nat} (ha : 0 < a) (h : n < 2 ^ a) : n.log2 < a := by
  by_cases h0 : n = 0
  · subst h0
    rw [Nat.log2_zero]
    exact ha
  · exact (Nat.log2_lt h0).mpr h
theorem mulOk {i j : Int} (hi : Sm i) (hj : Sm j) : IntMulOk i j := by
  have b : ∀ x : Int, Sm x → Builtin.Int.intBits x ≤ 60000000 := fun x hx => by
    unfold Builtin.Int.intBits
    have := log2_lt_w (by decide) hx
    split <;> omega
  have h1 := b i hi
  have h2 := b j hj
  have e : bitsLine = 134217728 := by decide
  unfold IntMulOk
  intro z
  rw [Bool.and_eq_true] at z
  have z2 := z.2
  unfold Builtin.Int.intTooBig at z2
  have z3 := of_decide_eq_true z2
  rw [e] at z3
  omega
theorem op_mulP : OpR X (binaryOp .Mult) (L2.rI (fun i j => Sm i ∧ Sm j) fun i j => .int (i * j)) := opI fun _ _ _ _ _ _ _ hc q => mul_int q (mulOk hc.1 hc.2)
theorem inv_room {M : Model} {A : Around} {s : Shared} {n u : Nat} {Q : Unit → Shared → Prop} {E : Value → Shared → Prop} (hs : SeerAt M A s.heap) (hl : s.heap.NoLimit) (hd : A.depth + Builtin.pylongFrames < recursionLimit) (h : Q () s) :
    wpAny M { A with units := u } (Builtin.roomForPylongsInverse n) Q E s := by
  unfold Builtin.roomForPylongsInverse
  by_cases hb : n.log2 / 30 + 1 > 450
  · rw [if_pos hb]
    refine wpAny_bind (hs u s E _ rfl ?_)
    exact wpAny_pylongFrames (A := { A with units := u }) hl hd h
  · rw [if_neg hb]
    exact wpAny_pure h
theorem run_lcm {M : Model} {A : Around} {s : Shared} {a b : Int} {t u : Tok} {R : Value → Shared → Prop} {E : Value → Shared → Prop} (hs : SeerAt M A s.heap) (hl : s.heap.NoLimit) (hd : A.depth + Builtin.pylongFrames < recursionLimit)
    (hz : (((Nat.lcm 1 a.natAbs).lcm b.natAbs : Nat) : Int).natAbs.log2 < bitsLine) (h : R (.int (((Nat.lcm 1 a.natAbs).lcm b.natAbs : Nat) : Int) s.toks) { s with toks := s.toks + 1 }) :
    wpAny M A.in1 (Builtin.«math.lcm» ⟨[.int a t, .int b u], []⟩) (fun fin s' => ∃ v, fin = .done (.ret v) ∧ R v s') E s := by
  have hr : ∀ (n : Nat) (E : Value → Shared → Prop) (Q : Unit → Shared → Prop), Q () s → wpAny M A.in1 (Builtin.roomForPylongsInverse n) Q E s := fun n E Q q => inv_room hs hl hd q
  obtain ⟨hp, g, d, tk, os⟩ := s
  wp_walk using hr
  (try (refine wpAny_ite_false (decide_eq_false (Nat.not_le.mpr hz)) ?_; wp_walk))
  exact ⟨_, rfl, h⟩
end
section
variable {X : Cx}
def rLcm : List V → Hp → VK → Prop := fun vs H Q => ∃ a b : Int, vs = [.int a, .int b] ∧ (Sm a ∧ Sm b) ∧ Q (.int ((Nat.lcm a.natAbs b.natAbs : Nat) : Int)) H
theorem lcm_small {a b : Int} (ha : Sm a) (hb : Sm b) : ((Nat.lcm a.natAbs b.natAbs : Nat) : Int).natAbs.log2 < bitsLine := by
  have e : bitsLine = 134217728 := by decide
  rw [e, Int.natAbs_natCast]
  have h1 : Nat.lcm a.natAbs b.natAbs ≤ a.natAbs * b.natAbs := by
    unfold Nat.lcm
    exact Nat.div_le_self _ _
  by_cases h0 : Nat.lcm a.natAbs b.natAbs = 0
  · rw [h0, Nat.log2_zero]
    decide
  · refine Nat.lt_of_lt_of_le ((Nat.log2_lt h0).mpr (?_ : _ < 2 ^ (60000000 + 60000000))) (by decide)
    refine Nat.lt_of_le_of_lt h1 ?_
    rw [Nat.pow_add]
    exact Nat.mul_lt_mul'' ha hb
theorem cr_lcm (S : SeerX X) : CallR X (.builtin "math.lcm") rLcm := by
  intro pins s σ H vs us Q I r h
  obtain ⟨a, b, rfl, ⟨ha, hb⟩, q⟩ := h
  obtain ⟨t, u, rfl⟩ := Vals.int2 r
  have e1 : Nat.lcm 1 a.natAbs = a.natAbs := by simp [Nat.lcm]
  have key := run_lcm (a := a) (b := b) (t := t) (u := u) (A := X.A) (s := s) (R := EP X pins σ Q) (E := X.xe) (S.at_ I) I.nolimit S.dp (by rw [e1]; exact lcm_small ha hb) (by rw [e1]; exact ⟨.int _, H, I.tok _, ⟨_, rfl⟩, q⟩)
  refine wpAny_call (codeAny_call_builtin PySem.W.MGF.plain_lcm PySem.W.MGF.entry_lcm ?_)
  have hfin : wpAny (model X.prog X.w) X.A.in1 (Builtin.«math.lcm» ⟨[.int a t, .int b u], []⟩) (fun fin s' => match fin with | .done f => wants (EP X pins σ Q) X.xe (.ok f) s' | .again c' => c'.quiet = true ∧ codeAny (model X.prog X.w) X.A c' (wants (EP X pins σ Q) X.xe) s') (fun e s' => wants (EP X pins σ Q) X.xe (.error e) s') s :=
    wpAny_mono key (fun fin s' h' => by obtain ⟨v, rfl, hv⟩ := h'; exact hv) fun _ _ x => x
  have ok := PySem.W.MGF.args_lcm (.int a t) (.int b u)
  simp only [checkBuiltinCall, PySem.W.MGF.kind_lcm]
  cases hsig : Manifest.signature? "math.lcm" with
  | none => exact wpAny_pure hfin
  | some sig =>
    simp only [argsOk, hsig] at ok
    have h2 : Bind.checkArgs "math.lcm" sig ⟨[.int a t, .int b u], []⟩ = pure () := ok
    show wpAny _ _ (Bind.checkArgs "math.lcm" sig ⟨[.int a t, .int b u], []⟩) _ _ s
    rw [h2]
    exact wpAny_pure hfin
end
theorem eg_lcm {Γ : List Sl} {ta tb : TE} {i j : Int} (ha : EG Γ ta rI i) (hb : EG Γ tb rI j) (hi : Sm i) (hj : Sm j) : EG Γ (tCB rLcm (tCons ta (tCons tb tNil))) rI ((Nat.lcm i.natAbs j.natAbs : Nat) : Int) := fun H0 σ G H Q h0 s t k =>
  eg_two ha hb h0 s t fun v w G' H' p r1 r2 => ⟨i, j, by rw [show v = .int i from r1, show w = .int j from r2], ⟨hi, hj⟩, k _ G' H' p rfl⟩
theorem eg_mulP {Γ : List Sl} {ta tb : TE} {i j : Int} (ha : EG Γ ta rI i) (hb : EG Γ tb rI j) (hi : Sm i) (hj : Sm j) : EG Γ (tOp (L2.rI (fun i j => Sm i ∧ Sm j) fun i j => .int (i * j)) ta tb) rI (i * j) := eg_opI ha hb ⟨hi, hj⟩ fun _ => rfl
theorem eg_fdivP {Γ : List Sl} {ta tb : TE} {i j : Int} (ha : EG Γ ta rI i) (hb : EG Γ tb rI j) (hj : j ≠ 0) : EG Γ (tOp (L2.rI (fun _ j => j ≠ 0) fun i j => .int (i.fdiv j)) ta tb) rI (i.fdiv j) := eg_opI ha hb hj fun _ => rfl
end TW
set_option Elab.async false
set_option linter.all false
set_option maxRecDepth 100000
set_option maxHeartbeats 4000000
/-! The two classes: Ratio (a Rat), House (its letters and size); calls of defs by name, operators and properties of a class. -/
namespace TW
open PySem PySem.Spec PyProof.Rows L2
abbrev CQ : Addr := 438
abbrev CH : Addr := 671
def qf (q : Rat) : List (Str × V) := [("own_top", .int q.num), ("own_bottom", .int (q.den : Int))]
theorem str_tb : (("own_bottom" : Str) == "own_top") = false := by decide +kernel
theorem str_wl : (("own_width" : Str) == "own_letters") = false := by decide +kernel
theorem str_self (x : Str) : (x == x) = true := beq_self_eq_true x
theorem qf_top (q : Rat) : (qf q).lookup ("own_top" : Str) = some (.int q.num) := by
  unfold qf
  rw [List.lookup_cons, str_self]
theorem qf_bot (q : Rat) : (qf q).lookup ("own_bottom" : Str) = some (.int (q.den : Int)) := by
  unfold qf
  rw [List.lookup_cons, str_tb, List.lookup_cons, str_self]
def rQ : RT Rat := ⟨fun G v q => ∃ a dx, v = .ref a ∧ G a = some (.ins CQ dx (qf q)), fun s ⟨a, dx, e, h⟩ => ⟨a, dx, e, s _ _ h⟩⟩
/-- a table, several tables -/
abbrev Tab := List (List Rat)
abbrev rT : RT Tab := rL (rL rQ)
abbrev rTs : RT (List Tab) := rL rT
structure Hou where
  ls : List Tab
  n : Nat
def rH : RT Hou := ⟨fun G v h => ∃ a dx l, v = .ref a ∧ G a = some (.ins CH dx [("own_letters", l), ("own_width", .int (h.n : Int))]) ∧ rTs.rel G l h.ls,
  fun s ⟨a, dx, l, e, h, r⟩ => ⟨a, dx, l, e, s _ _ h, rTs.mono s r⟩⟩
theorem hf_l (l n : V) : List.lookup ("own_letters" : Str) [("own_letters", l), ("own_width", n)] = some l := by rw [List.lookup_cons, str_self]
theorem hf_w (l n : V) : List.lookup ("own_width" : Str) [("own_letters", l), ("own_width", n)] = some n := by rw [List.lookup_cons, str_wl, List.lookup_cons, str_self]
/-- an int or a Ratio -/
inductive NumV
  | i (n : Int)
  | q (r : Rat)
def rNV : RT NumV := ⟨fun G v x => match x with | .i n => v = .int n | .q r => rQ.rel G v r, fun {G G' v x} s h => by
  cases x with
  | i n => exact h
  | q r => exact rQ.mono s h⟩
section
variable {X : Cx} {Γ : List Sl} {ta tb te : TE} {α β γ : Type} {R : RT α} {S : RT β} {U : RT γ} {K : PySem.W.Frag}
theorem nn_Q : NoN rQ := fun G v x ⟨a, dx, e, _⟩ z => by rw [e] at z; cases z
theorem nn_H : NoN rH := fun G v x ⟨a, dx, l, e, _⟩ z => by rw [e] at z; cases z
theorem eg_top {q : Rat} (c : Cls K CQ) (n : NoAttr K CQ "own_top") (h : EG Γ ta rQ q) : EG Γ (tFld K ta "own_top") rI q.num := fun H0 σ G H Q h0 s t k =>
  h H0 σ G H _ h0 s t fun v G' H' p ⟨a, dx, e, r⟩ => ⟨a, CQ, dx, qf q, .int q.num, e, p.s _ _ r, c, n, qf_top q, k _ G' H' p rfl⟩
theorem eg_bot {q : Rat} (c : Cls K CQ) (n : NoAttr K CQ "own_bottom") (h : EG Γ ta rQ q) : EG Γ (tFld K ta "own_bottom") rI (q.den : Int) := fun H0 σ G H Q h0 s t k =>
  h H0 σ G H _ h0 s t fun v G' H' p ⟨a, dx, e, r⟩ => ⟨a, CQ, dx, qf q, .int (q.den : Int), e, p.s _ _ r, c, n, qf_bot q, k _ G' H' p rfl⟩
theorem eg_letters {o : Hou} (c : Cls K CH) (n : NoAttr K CH "own_letters") (h : EG Γ ta rH o) : EG Γ (tFld K ta "own_letters") rTs o.ls := fun H0 σ G H Q h0 s t k =>
  h H0 σ G H _ h0 s t fun v G' H' p ⟨a, dx, l, e, r, q⟩ => ⟨a, CH, dx, _, l, e, p.s _ _ r, c, n, hf_l _ _, k _ G' H' p q⟩
theorem eg_width {o : Hou} (c : Cls K CH) (n : NoAttr K CH "own_width") (h : EG Γ ta rH o) : EG Γ (tFld K ta "own_width") rI (o.n : Int) := fun H0 σ G H Q h0 s t k =>
  h H0 σ G H _ h0 s t fun v G' H' p ⟨a, dx, l, e, r, q⟩ => ⟨a, CH, dx, _, .int (o.n : Int), e, p.s _ _ r, c, n, hf_w _ _, k _ G' H' p rfl⟩
/-- a property's getter -/
theorem eg_prop {q : Rat} {A : Rat → Prop} {f : Rat → β} {E : XK} (h : EG Γ ta rQ q) (c : A q) : EG Γ (tProp CQ (sp1 rQ A S f) [] E ta) S (f q) := fun H0 σ G H Q h0 s t k =>
  h H0 σ G H _ h0 s t fun v G' H' p r => by
    obtain ⟨a, dx, e, r'⟩ := id r
    exact ⟨a, dx, qf q, e, p.s _ _ r', .ref a, q, G', rfl, p.s, by rw [← e]; exact r, c, fun u G2 H2 p2 r2 => k u G2 H2 (p.trans p2) r2⟩
/-! ### operators of a class -/
theorem rel_noNI {v : V} {u : Value} {Q : Value → Shared → Prop} {s : Shared} (r : RelV v u) (q : Q u s) : PySem.W.CmpBack Q u s := by
  cases v with
  | non => cases r; exact q
  | bl b => cases r; exact q
  | int i => obtain ⟨t, rfl⟩ := r; exact q
  | str i => obtain ⟨t, rfl⟩ := r; exact q
  | byt i => obtain ⟨t, rfl⟩ := r; exact q
  | flt i => obtain ⟨t, rfl⟩ := r; exact q
  | ref a => cases r; exact q
  | ty n => cases r; exact q
def rOwn (C : Addr) (sp : Sp) : R2 := fun x y H Q => ∃ a b dx dy fs gs, x = .ref a ∧ y = .ref b ∧ H a = some (.ins C dx fs) ∧ H b = some (.ins C dy gs) ∧ sp [x, y] H Q E0
theorem op_own {op : Operator} {C f : Addr} {fd : FuncData} {ps : List Str} {sp : Sp} {k : Nat} (F : FnOk X.prog X.w X.K X.mg X.base CX0 k f fd ps sp) (hr : Room k X.A) (hb : Binds X.K fd ps []) (hc : PySem.W.selfFirst X.K C = true)
    (hs : PySem.W.findIn X.K (.ref C) (PySem.dunder op.info.2) = some (some (.ref f))) (hf : PySem.W.isFn X.K (.ref f) = true) : OpR X (binaryOp op) (rOwn C sp) := by
  intro pins s σ H x y v u Q I rx ry h
  obtain ⟨a, b, dx, dy, fs, gs, rfl, rfl, ha, hb', hsp⟩ := h
  cases rx
  cases ry
  obtain ⟨mA, J, _⟩ := ins_get I.hok ha
  obtain ⟨mB, J', _⟩ := ins_get I.hok hb'
  obtain ⟨od, J, _⟩ := J.look
  obtain ⟨od', J', _⟩ := J'.look
  obtain ⟨m, hF⟩ := I.fr
  refine PySem.W.binop_K hF I.ok.mod.kin J J'.type hc hs hf ?_
  refine thn (run_fn (us := [.ref a, .ref b]) (vs := [.ref a, .ref b]) F hr hb .nil pass0 I (.cons rfl (.cons rfl .nil)) hsp) fun z s' ⟨w, H', I', rz, q⟩ => ?_
  exact rel_noNI rz ⟨w, H', I', rz, q⟩
def rOwn1 (C : Addr) (sp : Sp) : V → Hp → VK → Prop := fun x H Q => ∃ a dx fs, x = .ref a ∧ H a = some (.ins C dx fs) ∧ sp [x] H Q E0
theorem un_own {C f : Addr} {fd : FuncData} {ps : List Str} {sp : Sp} {k : Nat} (F : FnOk X.prog X.w X.K X.mg X.base CX0 k f fd ps sp) (hr : Room k X.A) (hb : Binds X.K fd ps [])
    (hs : PySem.W.findIn X.K (.ref C) "__neg__" = some (some (.ref f))) (hf : PySem.W.isFn X.K (.ref f) = true) : UnR X (unaryOp .USub) (rOwn1 C sp) := by
  intro pins s σ H x v Q I rx h
  obtain ⟨a, dx, fs, rfl, ha, hsp⟩ := h
  cases rx
  obtain ⟨mA, J, _⟩ := ins_get I.hok ha
  obtain ⟨od, J, _⟩ := J.look
  obtain ⟨m, hF⟩ := I.fr
  exact PySem.W.ksp_neg hF I.ok.mod.kin J hs hf (run_fn (us := [.ref a]) (vs := [.ref a]) F hr hb .nil pass0 I (.cons rfl .nil) hsp)
theorem eg_own {p q : Rat} {A : Rat → Rat → Prop} {f : Rat → Rat → Rat} (ha : EG Γ ta rQ p) (hb : EG Γ tb rQ q) (c : A p q) : EG Γ (tOp (rOwn CQ (sp2 rQ rQ A rQ f)) ta tb) rQ (f p q) := fun H0 σ G H Q h0 s t k =>
  eg_two ha hb h0 s t fun v w G' H' p' r1 r2 => by
    obtain ⟨a, dx, e1, g1⟩ := id r1
    obtain ⟨b, dy, e2, g2⟩ := id r2
    exact ⟨a, b, dx, dy, _, _, e1, e2, p'.s _ _ g1, p'.s _ _ g2, v, w, p, q, G', rfl, p'.s, r1, r2, c, fun u G2 H2 p2 r => k u G2 H2 (p'.trans p2) r⟩
theorem eg_own1 {p : Rat} {A : Rat → Prop} {f : Rat → Rat} (ha : EG Γ ta rQ p) (c : A p) : EG Γ (tUn (rOwn1 CQ (sp1 rQ A rQ f)) ta) rQ (f p) := fun H0 σ G H Q h0 s t k =>
  ha H0 σ G H _ h0 s t fun v G' H' p' r1 => by
    obtain ⟨a, dx, e1, g1⟩ := id r1
    exact ⟨a, dx, _, e1, p'.s _ _ g1, v, p, G', rfl, p'.s, r1, c, fun u G2 H2 p2 r => k u G2 H2 (p'.trans p2) r⟩
/-! ### making -/
def spQ : Sp := fun vs H Q _ => ∃ x dx t b, vs = [.ref x, .int t, .int b] ∧ b ≠ 0 ∧ H x = some (.ins CQ dx []) ∧ ∀ H', (∀ c o, c ≠ x → H c = some o → H' c = some o) → H' x = some (.ins CQ dx (qf (Rat.divInt t b))) → Q .non H'
theorem made_step {G H H' : Hp} {x dx C : Addr} {fs : List (Str × V)} (s : Same G H) (hx : H x = none) (hd : H dx = none) (ne : dx ≠ x) (k : ∀ c o, c ≠ x → (upd (upd H dx (.own x)) x (.ins C dx [])) c = some o → H' c = some o) (e : H' x = some (.ins C dx fs)) :
    Step G H (upd G x (.ins C dx fs)) H' :=
  ⟨same_new (s.free hx), fun b o eb => by
    by_cases hb : b = x
    · subst hb
      rw [upd_same] at eb
      rw [e]
      exact eb
    · rw [upd_ne hb] at eb
      have nd : b ≠ dx := fun z => by rw [z] at eb; rw [s.free hd] at eb; cases eb
      exact k b o hb (by rw [upd_ne hb, upd_ne nd]; exact s _ _ eb), fun b o eb => by
    have nb : b ≠ x := ne_of_none eb hx
    exact k b o nb (by rw [upd_ne nb, upd_ne (ne_of_none eb hd)]; exact eb), fun b h1 h2 => by
    have nb : b ≠ x := fun z => h1 (by rw [z]; exact hx)
    rw [upd_ne nb]
    exact h2⟩
theorem eg_mkQ2 {t b : Int} (ha : EG Γ ta rI t) (hb : EG Γ tb rI b) (c : b ≠ 0) : EG Γ (tMake CQ spQ [] E0 (tCons ta (tCons tb tNil))) rQ (Rat.divInt t b) := fun H0 σ G H Q h0 s t' k =>
  eg_two ha hb h0 s t' fun v w G' H' p r1 r2 x dx hx hd ne => by
    obtain rfl : v = .int t := r1
    obtain rfl : w = .int b := r2
    refine ⟨x, dx, t, b, rfl, c, upd_same, fun H2 k2 e => ⟨rfl, ?_⟩⟩
    have st := made_step p.s hx hd ne k2 e
    exact k _ _ H2 (p.trans st) ⟨x, dx, rfl, upd_same⟩
theorem eg_mkQ1 {t : Int} (ha : EG Γ ta rI t) : EG Γ (tMake CQ spQ [.int 1] E0 (tCons ta tNil)) rQ (Rat.divInt t 1) := fun H0 σ G H Q h0 s t' k =>
  ha H0 σ G H _ h0 s t' fun v G' H' p r1 x dx hx hd ne => by
    obtain rfl : v = .int t := r1
    refine ⟨x, dx, t, 1, rfl, by decide, upd_same, fun H2 k2 e => ⟨rfl, ?_⟩⟩
    have st := made_step p.s hx hd ne k2 e
    exact k _ _ H2 (p.trans st) ⟨x, dx, rfl, upd_same⟩
end
/-! ### defs by name -/
/-- a def of the top, told by its name, its text and its address -/
structure Df (K : PySem.W.Frag) (mg : Str → Option Value) (x : Str) (st : Stmt) : Prop where
  ex : ∃ f fd, Fun K x x st f fd ∧ mg x = some (.ref f)
/-- it keeps its promise -/
structure Ok (P : Program) (w : World) (K : PySem.W.Frag) (mg : Str → Option Value) (base : Heap) (x : Str) (k : Nat) (ps : List Str) (sp : Sp) : Prop where
  ex : ∃ f fd, mg x = some (.ref f) ∧ PySem.W.keepIn K (.ref f) = true ∧ Binds K fd ps [] ∧ FnOk P w K mg base CX0 k f fd ps sp
section
variable {P : Program} {w : World} {K : PySem.W.Frag} {mg : Str → Option Value} {base : Heap}
theorem pe_callO {X : Cx} {k : Nat} {x : Str} {ps : List Str} {sp : Sp} {p pos : Pos} {e : Expr} {es : List Expr} {t : TA} (O : Ok X.prog X.w X.K X.mg X.base x k ps sp) (hr : Room k X.A) (hg : Gl X x) (ha : PA X (e :: es) t) (hdb : (x == ("__debug__" : Str)) = false := by decide)
    (he : starEach (e :: es) X.env = (false, eval e X.env) :: starEach es X.env := by rfl) (hpl : (backTo pos (starEach es X.env)).any (·.1) = false := by rfl) : PE X (.Call (.Name x p) (e :: es) [] pos) (tCall sp [] E0 t) := by
  obtain ⟨f, fd, h1, h2, h3, h4⟩ := O.ex
  exact pe_call h4 hr hg h1 h2 h3 .nil pass0 ha hdb he hpl
theorem mkOk {x : Str} {st : Stmt} {N ps : List Str} {k : Nat} {sp : Sp} (d : Df K mg x st) (sc : FnScope N ps (defScope st))
    (bd : ∀ (kV doc pm : Value) (an : Option Addr) (cdv ct : Value) (us : List Value), us.length = ps.length → bindArgs (PySem.W.fnOf x x (defArgs st) (defBody st) (defScope st) .none kV doc pm an cdv ct) ⟨us, []⟩ = pure (ps.zip us))
    (len : ∀ vs H Q E, sp vs H Q E → vs.length = ps.length)
    (body : ∀ (f : Addr) (cdv : Value) (A : Around) (outer : List Env) (s : Shared) (H : Hp) (E : XK), Room k (A.deeper (envOfC x (defScope st) s.heap.objs.size f cdv)) →
      ∃ t, PSs (cxOf CX0 P w K mg base N x (defScope st) f cdv A outer s H E).nox (defBody st) t ∧ ∀ (vs : List V) (H' : Hp) (Q : VK), sp vs H' Q E → t { nx := fun _ H' => Q .non H', rt := Q } (L2.start N vs) H') :
    Ok P w K mg base x (k + 1) ps sp := by
  obtain ⟨f, fd, F, hm⟩ := d.ex
  refine ⟨f, fd, hm, F.kp, F.binds bd, F.ok sc len fun cdv A outer s H vs Q E hr h => ?_⟩
  obtain ⟨t, h1, h2⟩ := body f cdv A outer s H E hr
  exact ⟨t, h1, h2 vs H Q h⟩
end
/-! ### from a typed reading to the promise -/
section
variable {α β γ δ : Type} {R : RT α} {S : RT β} {U : RT γ} {W : RT δ} {N : List Str} {t : TS} {E : XK}
theorem len1 {A : α → Prop} {f : α → β} : ∀ vs H Q E, sp1 R A S f vs H Q E → vs.length = 1 := fun vs H Q E ⟨v, x, G, e, _⟩ => by rw [e]; rfl
theorem len2 {A : α → β → Prop} {f : α → β → γ} : ∀ vs H Q E, sp2 R S A U f vs H Q E → vs.length = 2 := fun vs H Q E ⟨v, _, x, _, G, e, _⟩ => by rw [e]; rfl
theorem len3 {A : α → β → γ → Prop} {f : α → β → γ → δ} : ∀ vs H Q E, sp3 R S U A W f vs H Q E → vs.length = 3 := fun vs H Q E ⟨v, _, _, x, _, _, G, e, _⟩ => by rw [e]; rfl
/-- what is wanted of the body: Q gets the wanted value -/
def Rets (U : RT γ) (y : γ) (G0 H0 : Hp) (Q : VK) : Prop := ∀ u G' H', Step G0 H0 G' H' → U.rel G' u y → Q u H'
theorem fin1 {A : α → Prop} {f : α → β} {n : Nat} (hn : N.length = n + 1)
    (h : ∀ (x : α) (G H : Hp) (Q : VK), A x → Rets S (f x) G H Q → Sg G H (fun _ => True) (.im R x :: nos n) t { nx := fun _ H' => Q .non H', rt := Q }) :
    ∀ (vs : List V) (H' : Hp) (Q : VK), sp1 R A S f vs H' Q E → t { nx := fun _ H' => Q .non H', rt := Q } (L2.start N vs) H' := fun vs H Q ⟨v, x, G, e, s, r, c, k⟩ => by
  subst e
  exact h x G H Q c k _ H ⟨G, Step.refl s, trivial, Ini.ty (.cons r (.nil n)) (by rw [List.length_cons, nos_len, hn])⟩
theorem fin2 {A : α → β → Prop} {f : α → β → γ} {n : Nat} (hn : N.length = n + 2)
    (h : ∀ (x : α) (y : β) (G H : Hp) (Q : VK), A x y → Rets U (f x y) G H Q → Sg G H (fun _ => True) (.im R x :: .im S y :: nos n) t { nx := fun _ H' => Q .non H', rt := Q }) :
    ∀ (vs : List V) (H' : Hp) (Q : VK), sp2 R S A U f vs H' Q E → t { nx := fun _ H' => Q .non H', rt := Q } (L2.start N vs) H' := fun vs H Q ⟨v, w, x, y, G, e, s, r, r2, c, k⟩ => by
  subst e
  exact h x y G H Q c k _ H ⟨G, Step.refl s, trivial, Ini.ty (.cons r (.cons r2 (.nil n))) (by rw [List.length_cons, List.length_cons, nos_len, hn])⟩
theorem fin3 {A : α → β → γ → Prop} {f : α → β → γ → δ} {n : Nat} (hn : N.length = n + 3)
    (h : ∀ (x : α) (y : β) (z : γ) (G H : Hp) (Q : VK), A x y z → Rets W (f x y z) G H Q → Sg G H (fun _ => True) (.im R x :: .im S y :: .im U z :: nos n) t { nx := fun _ H' => Q .non H', rt := Q }) :
    ∀ (vs : List V) (H' : Hp) (Q : VK), sp3 R S U A W f vs H' Q E → t { nx := fun _ H' => Q .non H', rt := Q } (L2.start N vs) H' := fun vs H Q ⟨v, w, r', x, y, z, G, e, s, r, r2, r3, c, k⟩ => by
  subst e
  exact h x y z G H Q c k _ H ⟨G, Step.refl s, trivial, Ini.ty (.cons r (.cons r2 (.cons r3 (.nil n)))) (by rw [List.length_cons, List.length_cons, List.length_cons, nos_len, hn])⟩
theorem up_true : Up fun _ => True := fun _ _ _ h => h
/-- return e -/
theorem sg_out {G0 H0 : Hp} {P : Hp → Prop} {Γ : List Sl} {te : TE} {D : Ends} {y : γ} {Q : VK} (h : EG Γ te U y) (k : Rets U y G0 H0 Q) (e : D.rt = Q) : Sg G0 H0 P Γ (tRet te) D := sg_ret h fun v G H p r => by
  rw [e]
  exact k v G H p r
theorem Rets.cast {y y' : γ} {G0 H0 : Hp} {Q : VK} (k : Rets U y G0 H0 Q) (e : y = y') : Rets U y' G0 H0 Q := e ▸ k
end
end TW
set_option Elab.async false
set_option linter.all false
set_option maxRecDepth 100000
set_option maxHeartbeats 4000000
/-! What the text's top has left, and the wrappers of rules for this text. -/
namespace TW
open PySem PySem.Spec PyProof.Rows L2
def topS (i : Nat) : Stmt := PySem.Challenge.pw_tracewords_k02_whole_houses_of_blocks.main.body.getD i (.Pass ⟨0, 0, 0, 0⟩)
theorem bt_len : bootBuiltins "len" = some (.builtin "len") := by decide +kernel
theorem bt_isinstance : bootBuiltins "isinstance" = some (.builtin "isinstance") := by decide +kernel
theorem bt_sum : bootBuiltins "sum" = some (.builtin "sum") := by decide +kernel
theorem bt_any : bootBuiltins "any" = some (.builtin "any") := by decide +kernel
theorem bt_all : bootBuiltins "all" = some (.builtin "all") := by decide +kernel
theorem bt_abs : bootBuiltins "abs" = some (.builtin "abs") := by decide +kernel
theorem bt_max : bootBuiltins "max" = some (.builtin "max") := by decide +kernel
theorem bt_divmod : bootBuiltins "divmod" = some (.builtin "divmod") := by decide +kernel
theorem bt_sorted : bootBuiltins "sorted" = some (.builtin "sorted") := by decide +kernel
theorem bt_repr : bootBuiltins "repr" = some (.builtin "repr") := by decide +kernel
theorem bt_int : bootBuiltins "int" = some (.type "int") := by decide +kernel
theorem bt_bool : bootBuiltins "bool" = some (.type "bool") := by decide +kernel
theorem bt_list : bootBuiltins "list" = some (.type "list") := by decide +kernel
theorem bt_tuple : bootBuiltins "tuple" = some (.type "tuple") := by decide +kernel
/-- what isinstance asks of a class -/
structure TyIn (K : PySem.W.Frag) (C : Addr) : Prop where
  cl : Cls K C
  ha : PySem.W.findIn K (.ref C) "__class__" = some (some (.builtin "object.__class__"))
  hn : PySem.W.specialIn K (.builtin "object.__class__") "__get__" = some (some (.builtin "getset_descriptor.__get__"))
  htk : PySem.W.takesIn K (.builtin "object.__class__") = some true
  hm : PySem.W.mroIn K C (.type "object") = some true
/-- what the top has left -/
structure Tx (P : Program) (K : PySem.W.Frag) (mg : Str → Option Value) (base : Heap) : Prop where
  len : mg "len" = none
  zip : mg "zip" = none
  range : mg "range" = none
  enumerate : mg "enumerate" = none
  isinstance : mg "isinstance" = none
  sum : mg "sum" = none
  any : mg "any" = none
  all : mg "all" = none
  abs : mg "abs" = none
  max : mg "max" = none
  divmod : mg "divmod" = none
  sorted : mg "sorted" = none
  repr : mg "repr" = none
  int : mg "int" = none
  bool : mg "bool" = none
  list : mg "list" = none
  tuple : mg "tuple" = none
  gcd : mg "gcd" = some (.builtin "math.gcd")
  lcm : mg "lcm" = some (.builtin "math.lcm")
  clQ : Cls K CQ
  clH : Cls K CH
  ntQ : NoAttr K CQ "own_top"
  nbQ : NoAttr K CQ "own_bottom"
  nlH : NoAttr K CH "own_letters"
  nwH : NoAttr K CH "own_width"
  g_Ratio : mg "Ratio" = some (.ref CQ)
  g_House : mg "House" = some (.ref CH)
  n_MOST_SIZE_tables : ∃ t, mg "MOST_SIZE_tables" = some (.int 4 t)
  n_MOST_SIZE_houses : ∃ t, mg "MOST_SIZE_houses" = some (.int 4 t)
  n_MOST_LETTERS : ∃ t, mg "MOST_LETTERS" = some (.int 3 t)
  n_MOST_ROWS : ∃ t, mg "MOST_ROWS" = some (.int 40 t)
  selfQ : PySem.W.selfFirst K CQ = true
  tiQ : TyIn K CQ
  tiH : TyIn K CH
  isQI : PySem.W.kitOne K (.ref CQ) (.type "int") = some false
  isIQ : PySem.W.kitOne K (.type "int") (.ref CQ) = some false
  seer : Seer0 mg base
  tree : P.given.tree = none
theorem SeerX.blk {X : Cx} (S : SeerX X) {s : Shared} {H : Hp} {scope : Scope} {cenv : Env} {fp : List Addr} : SeerX (X.blk s H scope cenv fp) := ⟨S.b, S.tree, S.fr, S.dp⟩
section
variable (P : Program) (w : World) (K : PySem.W.Frag) (mg : Str → Option Value) (base : Heap)
/-- a method of Ratio -/
structure Mth (m : Str) (k : Nat) (ps : List Str) (sp : Sp) : Prop where
  ex : ∃ f fd, PySem.W.findIn K (.ref CQ) m = some (some (.ref f)) ∧ PySem.W.isFn K (.ref f) = true ∧ PySem.W.keepIn K (.ref f) = true ∧ Binds K fd ps [] ∧ FnOk P w K mg base CX0 k f fd ps sp
/-- a property of Ratio -/
structure Prp (f : Str) (k : Nat) (sp : Sp) : Prop where
  ex : ∃ p g fd, PropOf K CQ f p g ∧ Binds K fd ["self"] [] ∧ FnOk P w K mg base CX0 k g fd ["self"] sp
/-- Ratio's making -/
structure MkQ (k : Nat) : Prop where
  ex : ∃ f fd u, Mk K CQ f ∧ Binds K fd ["self", "top", "bottom"] [] ∧ Binds K fd ["self", "top", "bottom"] [u] ∧ RelV (.int 1) u ∧ FnOk P w K mg base CX0 k f fd ["self", "top", "bottom"] spQ
end
section
variable {X : Cx} {k : Nat} {sp : Sp} {e : Expr} {es : List Expr} {ta : TE} {t : TA} {p pos : Pos}
theorem op_ownO {op : Operator} {m : Str} {ps : List Str} (M : Mth X.prog X.w X.K X.mg X.base m k ps sp) (hc : PySem.W.selfFirst X.K CQ = true) (hr : Room k X.A) (hm : PySem.dunder op.info.2 = m := by kernel_rfl) : OpR X (binaryOp op) (rOwn CQ sp) := by
  obtain ⟨f, fd, h1, h2, h3, h4, h5⟩ := M.ex
  subst hm
  exact op_own h5 hr h4 hc h1 h2
theorem un_ownO {ps : List Str} (M : Mth X.prog X.w X.K X.mg X.base "__neg__" k ps sp) (hr : Room k X.A) : UnR X (unaryOp .USub) (rOwn1 CQ sp) := by
  obtain ⟨f, fd, h1, h2, h3, h4, h5⟩ := M.ex
  exact un_own h5 hr h4 h1 h2
theorem pe_propO {f : Str} (M : Prp X.prog X.w X.K X.mg X.base f k sp) (c : Cls X.K CQ) (hr : Room (k + 1) X.A) (he : PE X e ta) (hab : attributeBase e f X.env (eval e X.env) = eval e X.env) : PE X (.Attribute e f pos) (tProp CQ sp [] E0 ta) := by
  obtain ⟨q, g, fd, h1, h2, h3⟩ := M.ex
  exact pe_prop he c h1 h3 hr h2 .nil pass0 hab
theorem pe_mkQ2 (M : MkQ X.prog X.w X.K X.mg X.base k) (hm : X.mg "Ratio" = some (.ref CQ)) (hr : Room (k + 1) X.A) {e2 : Expr} (hg : Gl X "Ratio") (ha : PA X (e :: e2 :: es) t)
    (he : starEach (e :: e2 :: es) X.env = (false, eval e X.env) :: starEach (e2 :: es) X.env := by rfl) (hpl : (backTo pos (starEach (e2 :: es) X.env)).any (·.1) = false := by rfl) : PE X (.Call (.Name "Ratio" p) (e :: e2 :: es) [] pos) (tMake CQ spQ [] E0 t) := by
  obtain ⟨f, fd, u, h1, h2, h3, h4, h5⟩ := M.ex
  exact pe_make h1 h5 hr hg hm h2 .nil pass0 ha (by decide) he hpl
theorem pe_mkQ1 (M : MkQ X.prog X.w X.K X.mg X.base k) (hm : X.mg "Ratio" = some (.ref CQ)) (hr : Room (k + 1) X.A) (hg : Gl X "Ratio") (ha : PA X (e :: es) t)
    (he : starEach (e :: es) X.env = (false, eval e X.env) :: starEach es X.env := by rfl) (hpl : (backTo pos (starEach es X.env)).any (·.1) = false := by rfl) : PE X (.Call (.Name "Ratio" p) (e :: es) [] pos) (tMake CQ spQ [.int 1] E0 t) := by
  obtain ⟨f, fd, u, h1, h2, h3, h4, h5⟩ := M.ex
  exact pe_make h1 h5 hr hg hm h3 (.cons h4 .nil) pass0 ha (by decide) he hpl
end
theorem seer_here {P : Program} {w : World} {K : PySem.W.Frag} {mg : Str → Option Value} {base : Heap} {N : List Str} {qual : Str} {scope : Scope} {f : Addr} {cdv : Value} {A : Around} {outer : List Env} {s : Shared} {H : Hp} {E : XK} {k : Nat}
    (T : Tx P K mg base) (h1 : scope.isGenerator = false) (h2 : scope.isCoroutine = false) (hr : Room k (A.deeper (envOfC qual scope s.heap.objs.size f cdv))) (hk : 32 ≤ k := by decide) :
    SeerX (cxOf CX0 P w K mg base N qual scope f cdv A outer s H E).nox :=
  ⟨T.seer, T.tree, ⟨envOfC qual scope s.heap.objs.size f cdv, outer, rfl, h1, h2, rfl, rfl⟩, by
    have := hr.dp
    have e : Builtin.pylongFrames = 100 := rfl
    show (A.deeper (envOfC qual scope s.heap.objs.size f cdv)).depth + Builtin.pylongFrames < recursionLimit
    rw [e]
    omega⟩
end TW
set_option Elab.async false
set_option linter.all false
set_option maxRecDepth 100000
set_option maxHeartbeats 4000000
/-! Methods of the two classes, by their text. -/
namespace TW
open PySem PySem.Spec PyProof.Rows L2
/-- a method of Ratio as the top left it -/
structure Dm (K : PySem.W.Frag) (m qual : Str) (st : Stmt) : Prop where
  ex : ∃ f fd, Fun K m qual st f fd ∧ PySem.W.findIn K (.ref CQ) m = some (some (.ref f)) ∧ PySem.W.isFn K (.ref f) = true
/-- a property -/
structure Dp (K : PySem.W.Frag) (m qual : Str) (st : Stmt) : Prop where
  ex : ∃ p g fd, Fun K m qual st g fd ∧ PropOf K CQ m p g
/-- Ratio's __init__ -/
structure Di (K : PySem.W.Frag) (st : Stmt) : Prop where
  ex : ∃ f fd, FunD K "__init__" "Ratio.__init__" (defArgs st) (defBody st) (defScope st) [.int 1] [] f fd ∧ Mk K CQ f
/-- House's -/
structure Dh (K : PySem.W.Frag) (st : Stmt) : Prop where
  ex : ∃ f fd, Fun K "__init__" "House.__init__" st f fd ∧ Mk K CH f
section
variable {P : Program} {w : World} {K : PySem.W.Frag} {mg : Str → Option Value} {base : Heap}
theorem mkMth {m qual : Str} {st : Stmt} {N ps : List Str} {k : Nat} {sp : Sp} (d : Dm K m qual st) (sc : FnScope N ps (defScope st))
    (bd : ∀ (kV doc pm : Value) (an : Option Addr) (cdv ct : Value) (us : List Value), us.length = ps.length → bindArgs (PySem.W.fnOf m qual (defArgs st) (defBody st) (defScope st) .none kV doc pm an cdv ct) ⟨us, []⟩ = pure (ps.zip us))
    (len : ∀ vs H Q E, sp vs H Q E → vs.length = ps.length)
    (body : ∀ (f : Addr) (cdv : Value) (A : Around) (outer : List Env) (s : Shared) (H : Hp) (E : XK), Room k (A.deeper (envOfC qual (defScope st) s.heap.objs.size f cdv)) →
      ∃ t, PSs (cxOf CX0 P w K mg base N qual (defScope st) f cdv A outer s H E).nox (defBody st) t ∧ ∀ (vs : List V) (H' : Hp) (Q : VK), sp vs H' Q E → t { nx := fun _ H' => Q .non H', rt := Q } (L2.start N vs) H') :
    Mth P w K mg base m (k + 1) ps sp := by
  obtain ⟨f, fd, F, h1, h2⟩ := d.ex
  refine ⟨f, fd, h1, h2, F.kp, F.binds bd, F.ok sc len fun cdv A outer s H vs Q E hr h => ?_⟩
  obtain ⟨t, h1, h2⟩ := body f cdv A outer s H E hr
  exact ⟨t, h1, h2 vs H Q h⟩
theorem mkPrp {m qual : Str} {st : Stmt} {N : List Str} {k : Nat} {sp : Sp} (d : Dp K m qual st) (sc : FnScope N ["self"] (defScope st))
    (bd : ∀ (kV doc pm : Value) (an : Option Addr) (cdv ct : Value) (us : List Value), us.length = 1 → bindArgs (PySem.W.fnOf m qual (defArgs st) (defBody st) (defScope st) .none kV doc pm an cdv ct) ⟨us, []⟩ = pure ((["self"] : List Str).zip us))
    (len : ∀ vs H Q E, sp vs H Q E → vs.length = 1)
    (body : ∀ (f : Addr) (cdv : Value) (A : Around) (outer : List Env) (s : Shared) (H : Hp) (E : XK), Room k (A.deeper (envOfC qual (defScope st) s.heap.objs.size f cdv)) →
      ∃ t, PSs (cxOf CX0 P w K mg base N qual (defScope st) f cdv A outer s H E).nox (defBody st) t ∧ ∀ (vs : List V) (H' : Hp) (Q : VK), sp vs H' Q E → t { nx := fun _ H' => Q .non H', rt := Q } (L2.start N vs) H') :
    Prp P w K mg base m (k + 1) sp := by
  obtain ⟨p, g, fd, F, h1⟩ := d.ex
  refine ⟨p, g, fd, h1, F.binds bd, F.ok sc len fun cdv A outer s H vs Q E hr h => ?_⟩
  obtain ⟨t, h1, h2⟩ := body g cdv A outer s H E hr
  exact ⟨t, h1, h2 vs H Q h⟩
theorem mkMkQ {st : Stmt} {N : List Str} {k : Nat} (d : Di K st) (sc : FnScope N ["self", "top", "bottom"] (defScope st))
    (b3 : ∀ (T : Addr) (kV doc pm : Value) (an : Option Addr) (cdv ct : Value) (us its : List Value), us.length = 3 → its.length = 1 →
      ∃ k, bindArgs (PySem.W.fnOf "__init__" "Ratio.__init__" (defArgs st) (defBody st) (defScope st) (.ref T) kV doc pm an cdv ct) ⟨us, []⟩ = seqItems? (.ref T) >>= k ∧ k (some its.toArray) = pure ((["self", "top", "bottom"] : List Str).zip (us ++ its.drop 1)))
    (b2 : ∀ (T : Addr) (kV doc pm : Value) (an : Option Addr) (cdv ct : Value) (us its : List Value), us.length = 2 → its.length = 1 →
      ∃ k, bindArgs (PySem.W.fnOf "__init__" "Ratio.__init__" (defArgs st) (defBody st) (defScope st) (.ref T) kV doc pm an cdv ct) ⟨us, []⟩ = seqItems? (.ref T) >>= k ∧ k (some its.toArray) = pure ((["self", "top", "bottom"] : List Str).zip (us ++ its.drop 0)))
    (body : ∀ (f : Addr) (cdv : Value) (A : Around) (outer : List Env) (s : Shared) (H : Hp) (E : XK), Room k (A.deeper (envOfC "Ratio.__init__" (defScope st) s.heap.objs.size f cdv)) →
      ∃ t, PSs (cxOf CX0 P w K mg base N "Ratio.__init__" (defScope st) f cdv A outer s H E).nox (defBody st) t ∧ ∀ (vs : List V) (H' : Hp) (Q : VK), spQ vs H' Q E → t { nx := fun _ H' => Q .non H', rt := Q } (L2.start N vs) H') :
    MkQ P w K mg base (k + 1) := by
  obtain ⟨f, fd, F, M⟩ := d.ex
  obtain ⟨ds3, v3, B3⟩ := F.binds1 (ps := ["self", "top", "bottom"]) 3 1 (by simp) rfl b3
  obtain ⟨ds2, v2, B2⟩ := F.binds1 (ps := ["self", "top", "bottom"]) 2 0 (by simp) rfl b2
  cases v3
  obtain ⟨u, rfl, r⟩ := vals1 v2
  refine ⟨f, fd, u, M, B3, B2, r, F.ok sc (fun vs H Q E h => ?_) fun cdv A outer s H vs Q E hr h => ?_⟩
  · obtain ⟨x, dx, t, b, e, _⟩ := h
    rw [e]
    rfl
  · obtain ⟨t, h1, h2⟩ := body f cdv A outer s H E hr
    exact ⟨t, h1.nox, h2 vs H Q h⟩
end
end TW
set_option Elab.async false
set_option linter.all false
set_option maxRecDepth 100000
set_option maxHeartbeats 4000000
/-! isinstance of numbers, lists, houses; small value relations. -/
namespace TW
open PySem PySem.Spec PyProof.Rows L2
/-- on to what comes next -/
theorem nx_go {G0 H0 : Hp} {P : Hp → Prop} {Γ : List Sl} {u : TS} {D D' : Ends} (h : Sg G0 H0 P Γ u D') : Nx G0 H0 P Γ { D with nx := u D' } := h
/-- a for loop with a fact of its own -/
theorem sg_forJ {α : Type} {G0 H0 : Hp} {P : Hp → Prop} {Γ : List Sl} {t : TS} {D : Ends} {R : RT α} {wi : TI} {g : TG} {xs : List α} (hu : Up P) (hi : IG Γ wi R xs) (Γi : Nat → List Sl) (J : Nat → Prop) (w0 : Wk Γ (Γi 0)) (j0 : J 0)
    (hb : ∀ (n : Nat) (a : α) (P' : Hp → Prop), Up P' → J n → xs[n]? = some a → ∃ Γ', GT (Γi n) g [] R a Γ' ∧ Sg G0 H0 P' Γ' t { D with nx := fun σ H => Stt G0 H0 P' (Γi (n + 1)) σ H ∧ J (n + 1), ct := fun σ H => Stt G0 H0 P' (Γi (n + 1)) σ H ∧ J (n + 1), bk := D.nx })
    (k : J xs.length → Nx G0 H0 P (Γi xs.length) D) : Sg G0 H0 P Γ (tFor wi g t) D := fun σ H ⟨G, p, q, ty⟩ => by
  refine hi H0 σ G H _ p.h p.s ty fun J' G1 H1 st1 w _ => ?_
  let P' : Hp → Prop := fun G => P G ∧ Same G1 G
  have hP' : Up P' := up_and hu G1
  refine for_it w (Pv := fun n σ' H' => Stt G0 H0 P' (Γi n) σ' H' ∧ J n) ⟨⟨G1, p.trans st1, ⟨hu _ _ st1.g q, Same.refl _⟩, (ty.step st1).weak w0⟩, j0⟩ ?_ ?_ ?_
  · rintro n σ' H' _ ⟨⟨G2, p2, q2, _⟩, _⟩
    exact q2.2.trans p2.s
  · rintro n v σ' H' H'' hn ⟨⟨G2, p2, q2, ty2⟩, jn⟩ ⟨b, hb1, hb2⟩
    obtain ⟨G3, st3, r3⟩ := hb2 G2 q2.2 p2.s
    obtain ⟨Γ', hg, hs⟩ := hb n b P' hP' jn hb1
    exact hg H0 σ' G3 H'' v _ (ty2.step st3) st3.s r3 fun σ2 t4 _ => hs σ2 H'' ⟨G3, p2.trans st3, hP' _ _ st3.g q2, t4⟩
  · rintro σ' H' ⟨⟨G2, p2, q2, ty2⟩, jn⟩
    exact k jn σ' H' ⟨G2, p2, q2.1, ty2⟩
theorem nx_ofJ {G0 H0 : Hp} {P : Hp → Prop} {Γ Γ' : List Sl} {D : Ends} {j : Prop} (h : D.nx = fun σ H => Stt G0 H0 P Γ' σ H ∧ j) (w : Wk Γ Γ') (hj : j) : Nx G0 H0 P Γ D := fun σ H ⟨G, p, q, ty⟩ => by
  rw [h]
  exact ⟨⟨G, p, q, ty.weak w⟩, hj⟩
/-- some list -/
def rLs : RT Unit := ⟨fun G v _ => ∃ a vs, v = .ref a ∧ G a = some (.lst vs), fun s ⟨a, vs, e, h⟩ => ⟨a, vs, e, s _ _ h⟩⟩
/-- anything -/
def rAny : RT Unit := ⟨fun _ _ _ => True, fun _ h => h⟩
/-- one address -/
def rRef (a : Addr) : RT Unit := ⟨fun _ v _ => v = .ref a, fun _ h => h⟩
def NumV.isI : NumV → Bool
  | .i _ => true
  | .q _ => false
section
variable {Γ : List Sl} {ta tb te : TE} {α β γ : Type} {R : RT α} {S : RT β} {U : RT γ} {K : PySem.W.Frag} {P : Program} {mg : Str → Option Value} {base : Heap}
theorem rL_ls {xs : List α} {G : Hp} {v : V} (h : (rL R).rel G v xs) : rLs.rel G v () := let ⟨a, vs, e, g, _⟩ := h; ⟨a, vs, e, g⟩
theorem eg_asI {i : Int} (h : EG Γ te rI i) : EG Γ te rNV (.i i) := h.as fun _ _ r => r
theorem eg_asQ {q : Rat} (h : EG Γ te rQ q) : EG Γ te rNV (.q q) := h.as fun _ _ r => r
theorem isi_run {c : V} {u : Value} {H0 : Hp} {σ : L2.St} {G H : Hp} {Q : VK} {x : α} {b : Bool} (hc : ClsV c u) (ha : EG Γ ta R x) (h : ∀ G v, R.rel G v x → ∃ t, (∀ H, Same G H → TyX K H v t) ∧ PySem.W.kitOne K t u = some b) :
    EG Γ (tCB (rIsi K) (tCons ta (tCons (tC c) tNil))) rB b := fun H0 σ G H Q h0 s t k => ha H0 σ G H _ h0 s t fun v G1 H1 p r => by
  obtain ⟨tt, h1, h2⟩ := h G1 v r
  exact ⟨v, c, tt, u, b, rfl, hc, h1 H1 p.s, h2, k _ G1 H1 p rfl⟩
theorem ty_Q {q : Rat} {G : Hp} {v : V} (T : TyIn K CQ) (r : rQ.rel G v q) : ∀ H, Same G H → TyX K H v (.ref CQ) := fun H s => by
  obtain ⟨a, dx, rfl, h⟩ := r
  exact .base (.ins (s _ _ h) T.cl T.ha T.hn T.htk T.hm)
theorem ty_H {o : Hou} {G : Hp} {v : V} (T : TyIn K CH) (r : rH.rel G v o) : ∀ H, Same G H → TyX K H v (.ref CH) := fun H s => by
  obtain ⟨a, dx, l, rfl, h, _⟩ := r
  exact .base (.ins (s _ _ h) T.cl T.ha T.hn T.htk T.hm)
theorem kit_me (t : Value) (h : (t == t) = true) : PySem.W.kitOne K t t = some true := if_pos h
theorem kit_ref (C : Addr) : PySem.W.kitOne K (.ref C) (.ref C) = some true := kit_me _ (beq_self_eq_true _)
theorem eg_isInt {x : NumV} (T : Tx P K mg base) (ha : EG Γ ta rNV x) : EG Γ (tCB (rIsi K) (tCons ta (tCons (tC (.ty "int")) tNil))) rB x.isI :=
  isi_run (H0 := fun _ => none) (σ := []) (G := fun _ => none) (H := fun _ => none) (Q := fun _ _ => True) (.ty _) ha fun G v r => by
    cases x with
    | i n =>
      obtain rfl : v = .int n := r
      exact ⟨.type "int", fun H s => .base (.int n), (kit_ty (r := true) (by decide +kernel))⟩
    | q z => exact ⟨.ref CQ, ty_Q T.tiQ r, T.isQI⟩
theorem eg_isBool {n : Int} (ha : EG Γ ta rI n) : EG Γ (tCB (rIsi K) (tCons ta (tCons (tC (.ty "bool")) tNil))) rB false :=
  isi_run (H0 := fun _ => none) (σ := []) (G := fun _ => none) (H := fun _ => none) (Q := fun _ _ => True) (.ty _) ha fun G v r => by
    obtain rfl : v = .int n := r
    exact ⟨.type "int", fun H s => .base (.int n), kit_ty (by decide +kernel)⟩
theorem eg_isQ {x : NumV} (T : Tx P K mg base) (ha : EG Γ ta rNV x) : EG Γ (tCB (rIsi K) (tCons ta (tCons (tC (.ref CQ)) tNil))) rB (!x.isI) :=
  isi_run (H0 := fun _ => none) (σ := []) (G := fun _ => none) (H := fun _ => none) (Q := fun _ _ => True) (.own _) ha fun G v r => by
    cases x with
    | i n =>
      obtain rfl : v = .int n := r
      exact ⟨.type "int", fun H s => .base (.int n), T.isIQ⟩
    | q z => exact ⟨.ref CQ, ty_Q T.tiQ r, kit_ref CQ⟩
theorem eg_isH {x : Hou} (T : Tx P K mg base) (ha : EG Γ ta rH x) : EG Γ (tCB (rIsi K) (tCons ta (tCons (tC (.ref CH)) tNil))) rB true :=
  isi_run (H0 := fun _ => none) (σ := []) (G := fun _ => none) (H := fun _ => none) (Q := fun _ _ => True) (.own _) ha fun G v r => ⟨.ref CH, ty_H T.tiH r, kit_ref CH⟩
theorem eg_isL {x : Unit} (ha : EG Γ ta rLs x) : EG Γ (tCB (rIsiT K) (tCons ta (tCons (tTup (tCons (tC (.ty "list")) (tCons (tC (.ty "tuple")) tNil))) tNil))) rB true := fun H0 σ G H Q h0 s t k => ha H0 σ G H _ h0 s t fun v G1 H1 p r => by
  obtain ⟨a, vs, rfl, ga⟩ := r
  refine ⟨by decide +kernel, fun q hq => ⟨.ref a, q, [.ty "list", .ty "tuple"], .type "list", [.type "list", .type "tuple"], true, rfl, upd_same, .cons (.ty _) (.cons (.ty _) .nil), .base (.lst (xs := vs) ?_), ?_, ?_⟩⟩
  · rw [upd_ne (ne_of_none (p.s _ _ ga) hq)]
    exact p.s _ _ ga
  · exact kitAny_cons (kit_ty (b := "list") (r := true) (by decide +kernel)) (fun z => nomatch z) fun _ => rfl
  · have st := Step.new (o := .tup [.ty "list", .ty "tuple"]) p.s hq
    exact k _ _ _ (p.trans st) rfl
end
end TW
set_option Elab.async false
set_option linter.all false
set_option maxRecDepth 100000
set_option maxHeartbeats 4000000
/-! Rules whose reading names K, so that they stand inside a comprehension too. -/
namespace TW
open PySem PySem.Spec PyProof.Rows L2
/-- the lists in a list have their bound -/
theorem sg_lens {G0 H0 : Hp} {P : Hp → Prop} {Γ : List Sl} {t : TS} {D : Ends} {α : Type} {R : RT α} {n : Nat} {xs : List (List α)} (hi : gt Γ n = .im (rL (rL R)) xs) (h : (∀ r ∈ xs, r.length < big) → Sg G0 H0 P Γ t D) : Sg G0 H0 P Γ t D := fun σ H ⟨G, p, q, ty⟩ => by
  have w := ty.at_ n
  rw [hi] at w
  obtain ⟨v, e, a, vs, ev, hv, r, z⟩ := w
  refine h (fun x hx => ?_) σ H ⟨G, p, q, ty⟩
  obtain ⟨i, hi, rfl⟩ := List.getElem_of_mem hx
  obtain ⟨u, _, a2, vs2, _, _, _, z2⟩ := r.get (List.getElem?_eq_getElem hi)
  exact z2
theorem own_state {H0 G H G' H' : Hp} {Γ : List Sl} {σ : L2.St} {α : Type} {R : RT α} {n : Nat} {l : Addr} {vs : List V} {xs : List α} (ty : Ty H0 Γ σ G H) (p : Same H0 H) (p2 : Step G H G' H') (hn : n < Γ.length) (hl : H l = none) (hg : G' l = none) (hh : H' l = some (.lst vs))
    (a : All2 (R.rel G') vs xs) (z : xs.length < big) : Ty H0 (st Γ n (.own R xs)) (σ.set n (some (.ref l))) G' H' := by
  have h0 : H0 l = none := p.free hl
  have ty2 := ty.step p2
  let H1 : Hp := fun b => if b = l then none else H' b
  have e1 : upd H1 l (.lst vs) = H' := by
    funext b
    by_cases hb : b = l
    · rw [hb, upd_same, hh]
    · rw [upd_ne hb]
      exact if_neg hb
  have ty3 : Ty H0 Γ σ G' H1 := ⟨ty2.len, fun i => by
    have w := ty2.at_ i
    have w0 := ty.at_ i
    revert w w0
    cases gt Γ i with
    | no => exact fun _ _ => trivial
    | im R x => exact fun w _ => w
    | own R xs =>
      rintro ⟨l', vs', e', h0', hg', hh', a', z'⟩ ⟨l2, vs2, e2, _, _, hh2, _, _⟩
      rw [e'] at e2
      cases e2
      have nl : l' ≠ l := fun w => by rw [w, hl] at hh2; cases hh2
      exact ⟨l', vs', e', h0', hg', (if_neg nl).trans hh', a', z'⟩, ty2.ap⟩
  have sm : Same G' H1 := fun b o e => by
    have nb : b ≠ l := fun w => by rw [w, hg] at e; cases e
    exact (if_neg nb).trans (p2.s _ _ e)
  have := ty3.set_own hn sm h0 (if_pos rfl) a z
  rw [e1] at this
  exact this
/-- a, b = e, a new list -/
theorem sg_parO {G0 H0 : Hp} {P : Hp → Prop} {Γ : List Sl} {D : Ends} {α β : Type} {R : RT α} {S : RT β} {x : α} {ta tb : TE} {m n : Nat} {ys : List β} (hu : Up P) (hn : n < (st Γ m (.im R x)).length) (h1 : EG Γ ta R x) (h2 : EN Γ tb S ys) (k : Nx G0 H0 P (st (st Γ m (.im R x)) n (.own S ys)) D) :
    Sg G0 H0 P Γ (tPar m n (tCons ta (tCons tb tNil))) D := fun σ H ⟨G, p, q, ty⟩ =>
  h1 H0 σ G H _ p.h p.s ty fun v G1 H1 p1 r1 => h2 H0 σ G1 H1 _ (p.trans p1).h p1.s (ty.step p1) fun l vs G2 H2 p2 hl hg hh a z => by
    have pp := p.trans p1
    exact ⟨v, .ref l, rfl, k _ _ ⟨G2, pp.trans p2, hu _ _ (p1.g.trans p2.g) q, own_state ((ty.step p1).set_im r1) pp.h p2 hn hl hg hh a z⟩⟩
/-- a, b = a new list, e -/
theorem sg_ownPar {G0 H0 : Hp} {P : Hp → Prop} {Γ : List Sl} {D : Ends} {α β : Type} {R : RT α} {S : RT β} {x : α} {ta tb : TE} {m n : Nat} {ys : List β} (hu : Up P) (hm : m < Γ.length) (h2 : EN Γ ta S ys) (h1 : EG Γ tb R x) (k : Nx G0 H0 P (st (st Γ m (.own S ys)) n (.im R x)) D) :
    Sg G0 H0 P Γ (tPar m n (tCons ta (tCons tb tNil))) D := fun σ H ⟨G, p, q, ty⟩ =>
  h2 H0 σ G H _ p.h p.s ty fun l vs G1 H1 p1 hl hg hh a z => h1 H0 σ G1 H1 _ (p.trans p1).h p1.s (ty.step p1) fun v G2 H2 p2 r2 => by
    have pp := p.trans p1
    have t1 := own_state ty p.h p1 hm hl hg hh a z
    exact ⟨.ref l, v, rfl, k _ _ ⟨G2, pp.trans p2, hu _ _ (p1.g.trans p2.g) q, (t1.step p2).set_im r2⟩⟩
/-- the same, by way of a tuple -/
theorem sg_ownTup {K : PySem.W.Frag} {G0 H0 : Hp} {P : Hp → Prop} {Γ : List Sl} {D : Ends} {α β : Type} {R : RT α} {S : RT β} {x : α} {ta tb : TE} {m n : Nat} {ys : List β} (hu : Up P) (hm : m < Γ.length) (h2 : EN Γ ta S ys) (h1 : EG Γ tb R x) (k : Nx G0 H0 P (st (st Γ m (.own S ys)) n (.im R x)) D) :
    Sg G0 H0 P Γ (tAsg (tTup (tCons ta (tCons tb tNil))) (gTup K 2 (gCons (gName m) (gCons (gName n) gNil)))) D := fun σ H ⟨G, p, q, ty⟩ =>
  h2 H0 σ G H _ p.h p.s ty fun l vs G1 H1 p1 hl hg hh a z => h1 H0 σ G1 H1 _ (p.trans p1).h p1.s (ty.step p1) fun v G2 H2 p2 r2 => by
    have pp := p.trans p1
    have t1 := own_state ty p.h p1 hm hl hg hh a z
    refine ⟨(by decide : 2 ≤ sizeLine), fun b hb => ?_⟩
    have p3 : Step G2 H2 G2 (upd H2 b (.tup [.ref l, v])) := Step.newO p2.s hb
    exact ⟨b, [.ref l, v], rfl, st_of upd_same, rfl, .ref l, [v], rfl, v, [], rfl, rfl, k _ _ ⟨G2, (pp.trans p2).trans p3, hu _ _ (p1.g.trans p2.g) q, ((t1.step p2).step p3).set_im r2⟩⟩
theorem sg_tupOwn {K : PySem.W.Frag} {G0 H0 : Hp} {P : Hp → Prop} {Γ : List Sl} {D : Ends} {α β : Type} {R : RT α} {S : RT β} {x : α} {ta tb : TE} {m n : Nat} {ys : List β} (hu : Up P) (hn : n < (st Γ m (.im R x)).length) (h1 : EG Γ ta R x) (h2 : EN Γ tb S ys) (k : Nx G0 H0 P (st (st Γ m (.im R x)) n (.own S ys)) D) :
    Sg G0 H0 P Γ (tAsg (tTup (tCons ta (tCons tb tNil))) (gTup K 2 (gCons (gName m) (gCons (gName n) gNil)))) D := fun σ H ⟨G, p, q, ty⟩ =>
  h1 H0 σ G H _ p.h p.s ty fun v G1 H1 p1 r1 => h2 H0 σ G1 H1 _ (p.trans p1).h p1.s (ty.step p1) fun l vs G2 H2 p2 hl hg hh a z => by
    have pp := p.trans p1
    have t1 := own_state ((ty.step p1).set_im r1) pp.h p2 hn hl hg hh a z
    refine ⟨(by decide : 2 ≤ sizeLine), fun b hb => ?_⟩
    have p3 : Step G2 H2 G2 (upd H2 b (.tup [v, .ref l])) := Step.newO p2.s hb
    exact ⟨b, [v, .ref l], rfl, st_of upd_same, rfl, v, [.ref l], rfl, .ref l, [], rfl, rfl, k _ _ ⟨G2, (pp.trans p2).trans p3, hu _ _ (p1.g.trans p2.g) q, t1.step p3⟩⟩
theorem sg_tup {K : PySem.W.Frag} {G0 H0 : Hp} {P : Hp → Prop} {Γ : List Sl} {D : Ends} {α β : Type} {R : RT α} {S : RT β} {x : α} {y : β} {ta tb : TE} {m n : Nat} (hu : Up P) (h1 : EG Γ ta R x) (h2 : EG Γ tb S y) (k : Nx G0 H0 P (st (st Γ m (.im R x)) n (.im S y)) D) :
    Sg G0 H0 P Γ (tAsg (tTup (tCons ta (tCons tb tNil))) (gTup K 2 (gCons (gName m) (gCons (gName n) gNil)))) D := sg_pair hu (eg_tup h1 h2) k
/-- an expression as a statement -/
theorem sg_drop {G0 H0 : Hp} {P : Hp → Prop} {Γ : List Sl} {D : Ends} {α : Type} {R : RT α} {x : α} {te : TE} (hu : Up P) (h : EG Γ te R x) (k : Nx G0 H0 P Γ D) : Sg G0 H0 P Γ (tDrop te) D := fun σ H ⟨G, p, q, ty⟩ =>
  h H0 σ G H _ p.h p.s ty fun v G' H' p2 r => k _ _ ⟨G', p.trans p2, hu _ _ p2.g q, ty.step p2⟩
theorem pe_globI {X : Cx} {x : Str} {i : Int} {pos : Pos} (hg : Gl X x) (h : ∃ t, X.mg x = some (.int i t)) (hd : (x == ("__debug__" : Str)) = false := by decide) : PE X (.Name x pos) (tC (.int i)) := by
  obtain ⟨t, e⟩ := h
  exact pe_glob hg e ⟨t, rfl⟩ hd
theorem eg_chain {Γ : List Sl} {ta tb tc : TE} {i j l : Int} (ha : EG Γ ta rI i) (hb : EG Γ tb rI j) (hc : EG Γ tc rI l) : EG Γ (tChain (rI0 fun i j => .bl (decide (i ≤ j))) (rI0 fun i j => .bl (decide (i ≤ j))) ta tb tc) rB (decide (i ≤ j) && decide (j ≤ l)) := fun H0 σ G H Q h0 s t k =>
  ha H0 σ G H _ h0 s t fun v G1 H1 p1 r1 => hb H0 σ G1 H1 _ (h0.trans p1.h) p1.s (t.step p1) fun u G2 H2 p2 r2 => by
    obtain rfl : v = .int i := r1
    obtain rfl : u = .int j := r2
    have pp := p1.trans p2
    refine ⟨i, j, rfl, rfl, decide (i ≤ j), rfl, ?_⟩
    cases h : decide (i ≤ j) with
    | false => exact iteF (k _ G2 H2 pp (by rw [h, Bool.false_and]; rfl))
    | true =>
      refine iteT (hc H0 σ G2 H2 _ (h0.trans pp.h) pp.s (t.step pp) fun w G3 H3 p3 r3 => ?_)
      obtain rfl : w = .int l := r3
      exact ⟨j, l, rfl, rfl, k _ G3 H3 (pp.trans p3) (by rw [h, Bool.true_and]; rfl)⟩
theorem en_nil {Γ : List Sl} {α : Type} (R : RT α) : EN Γ (tLst tNil) R [] := en_lst er_nil (show 0 < big by decide)
section
variable {X : Cx} {K : PySem.W.Frag} (hK : X.K = K)
include hK
theorem pe_fldK {e : Expr} {f : Str} {pos : Pos} {ta : TE} (he : PE X e ta) (hb : attributeBase e f X.env (eval e X.env) = eval e X.env) : PE X (.Attribute e f pos) (tFld K ta f) := by
  subst hK
  exact pe_fld he hb
theorem ix_tupK : IxR X (rIxT K) := by
  subst hK
  exact ix_tup
theorem ix_listK : IxR X (rIxL K) := by
  subst hK
  exact ix_list
theorem sl_listK : L2.SlR X (rSlL K) := by
  subst hK
  exact sl_list
theorem pi_listK {tg l : Expr} {tl : TE} (hl : PE X l tl) : PI X tg l (iList K tl) := by
  subst hK
  exact pi_list hl
theorem pi_zipK {e e2 : Expr} {ta : TA} {p pos tpos : Pos} {elts : List Expr} {kk : Nat} (hg : Gl X "zip") (hm : X.mg "zip" = none) (ha : PA X [e, e2] ta)
    (hs : starEach [e, e2] X.env = (false, eval e X.env) :: starEach [e2] X.env := by rfl) (hpl : (backTo pos (starEach [e2] X.env)).any (·.1) = false := by rfl) :
    PI X (.Tuple elts kk tpos) (.Call (.Name "zip" p) [e, e2] [] pos) (iZip K ta) := by
  subst hK
  exact pi_zip hg hm ha hs hpl
theorem pi_enumK {e : Expr} {ta : TA} {p pos tpos : Pos} {elts : List Expr} {kk : Nat} (hg : Gl X "enumerate") (hm : X.mg "enumerate" = none) (ha : PA X [e] ta) (hs : starEach [e] X.env = [(false, eval e X.env)] := by rfl) :
    PI X (.Tuple elts kk tpos) (.Call (.Name "enumerate" p) [e] [] pos) (iEnum K ta) := by
  subst hK
  exact pi_enum hg hm ha hs
theorem pg_tupK {pos : Pos} {es : List Expr} {k : Nat} {t : TGs} {n : Nat} (hc : X.calm = true) (h : PGs X es t)
    (hn : (assignEach es X.env).length = n := by rfl) (hst : (assignEach es X.env).findIdx? (·.1) = none := by rfl) : PG X (.Tuple es k pos) (gTup K n t) := by
  subst hK
  exact pg_tup hc h hn hst
theorem call_lenK : CallR X (.builtin "len") (fun xs H Q => ∃ p ys, xs = [.ref p] ∧ (SqL K H p ys ∨ SqT K H p ys) ∧ Q (.int ys.length) H) := by
  subst hK
  exact call_len_seq
theorem call_listK : CallR X (.type "list") (fun xs H Q => ∃ p ys, xs = [.ref p] ∧ (SqL K H p ys ∨ SqT K H p ys) ∧ ∀ l, H l = none → Q (.ref l) (upd H l (.lst ys))) := by
  subst hK
  exact call_list_of
theorem cr_sumK (hc : X.calm = true) : CallR X (.builtin "sum") (rSum K) := by
  subst hK
  exact cr_sum hc
theorem cr_anyK (hc : X.calm = true) : CallR X (.builtin "any") (L2.rAny K) := by
  subst hK
  exact cr_any hc
theorem cr_allK (hc : X.calm = true) : CallR X (.builtin "all") (rAll K) := by
  subst hK
  exact cr_all hc
theorem notInK : OpR X (compareOp .NotIn) (rIn K true) := by
  subst hK
  exact op_notIn_seq
theorem call_isiK' : CallR X (.builtin "isinstance") (rIsi K) := by
  subst hK
  exact call_isi
theorem call_isiTK : CallR X (.builtin "isinstance") (rIsiT K) := by
  subst hK
  exact call_isiT
end
end TW
set_option Elab.async false
set_option linter.all false
/-! Ratio's arithmetic told by Rat -/
namespace TW
open PySem PySem.Spec PyProof.Rows L2
/-- the common divisor with its sign -/
def comm (t b : Int) : Int := if b < 0 then 0 - ((Nat.gcd t.natAbs b.natAbs : Nat) : Int) else ((Nat.gcd t.natAbs b.natAbs : Nat) : Int)
theorem gcd_pos' {t b : Int} (h : b ≠ 0) : 0 < Nat.gcd t.natAbs b.natAbs := Nat.gcd_pos_of_pos_right _ (Int.natAbs_pos.mpr h)
theorem comm_ne {t b : Int} (h : b ≠ 0) : comm t b ≠ 0 := by
  have := gcd_pos' (t := t) h
  unfold comm
  split <;> omega
theorem divInt_parts {t b : Int} (h : b ≠ 0) : (Rat.divInt t b).num = t.fdiv (comm t b) ∧ ((Rat.divInt t b).den : Int) = b.fdiv (comm t b) := by
  have hg := gcd_pos' (t := t) h
  have e1 : b.gcd t = Nat.gcd t.natAbs b.natAbs := Nat.gcd_comm _ _
  have dt : ((Nat.gcd t.natAbs b.natAbs : Nat) : Int) ∣ t := Int.ofNat_dvd_left.mpr (Nat.gcd_dvd_left _ _)
  have db : ((Nat.gcd t.natAbs b.natAbs : Nat) : Int) ∣ b := Int.ofNat_dvd_left.mpr (Nat.gcd_dvd_right _ _)
  rw [Rat.num_divInt, Rat.den_divInt, if_neg h, e1]
  generalize hgg : Nat.gcd t.natAbs b.natAbs = g at hg dt db ⊢
  obtain ⟨x, hx⟩ := dt
  obtain ⟨y, hy⟩ := db
  have g0 : (g : Int) ≠ 0 := by omega
  unfold comm
  rw [hgg]
  by_cases hb : b < 0
  · rw [if_pos hb, show (0 : Int) - (g : Int) = -(g : Int) by omega]
    have hs : b.sign = -1 := Int.sign_eq_neg_one_of_neg hb
    rw [hs]
    constructor
    · rw [hx, show (-1 : Int) * ((g : Int) * x) = (g : Int) * (-x) by rw [Int.mul_neg, Int.neg_mul, Int.one_mul], Int.mul_ediv_cancel_left _ g0]
      rw [show (g : Int) * x = (-(g : Int)) * (-x) by rw [Int.neg_mul_neg], Int.mul_fdiv_cancel_left _ (by omega)]
    · have hny : (b.natAbs : Int) = (g : Int) * (-y) := by rw [Int.mul_neg, ← hy]; omega
      have : ((b.natAbs / g : Nat) : Int) = -y := by
        rw [Int.natCast_ediv, hny, Int.mul_ediv_cancel_left _ g0]
      rw [this, hy, show (g : Int) * y = (-(g : Int)) * (-y) by rw [Int.neg_mul_neg], Int.mul_fdiv_cancel_left _ (by omega)]
  · rw [if_neg hb]
    have hs : b.sign = 1 := Int.sign_eq_one_of_pos (by omega)
    rw [hs, Int.one_mul]
    constructor
    · rw [hx, Int.mul_ediv_cancel_left _ g0, Int.mul_fdiv_cancel_left _ g0]
    · have hny : (b.natAbs : Int) = (g : Int) * y := by rw [← hy]; omega
      have : ((b.natAbs / g : Nat) : Int) = y := by
        rw [Int.natCast_ediv, hny, Int.mul_ediv_cancel_left _ g0]
      rw [this, hy, Int.mul_fdiv_cancel_left _ g0]
theorem rat_add (p q : Rat) : Rat.divInt (p.num * (q.den : Int) + q.num * (p.den : Int)) ((p.den : Int) * (q.den : Int)) = p + q := by
  rw [Rat.add_def', ← Int.natCast_mul, Rat.divInt_ofNat]
theorem rat_sub (p q : Rat) : Rat.divInt (p.num * (q.den : Int) - q.num * (p.den : Int)) ((p.den : Int) * (q.den : Int)) = p - q := by
  rw [Rat.sub_def', ← Int.natCast_mul, Rat.divInt_ofNat]
theorem rat_mul (p q : Rat) : Rat.divInt (p.num * q.num) ((p.den : Int) * (q.den : Int)) = p * q := by
  rw [Rat.mul_def', ← Int.natCast_mul, Rat.divInt_ofNat]
theorem rat_neg (p : Rat) : Rat.divInt (0 - p.num) (p.den : Int) = -p := by
  rw [show (0 : Int) - p.num = -p.num by omega, ← Rat.neg_divInt, Rat.num_divInt_den]
theorem rat_int (n : Int) : Rat.divInt n 1 = (n : Rat) := by
  have h := Rat.num_divInt_den (n : Rat)
  exact h
theorem den_ne (q : Rat) : (q.den : Int) ≠ 0 := by
  have := q.den_nz
  omega
theorem den2_ne (p q : Rat) : (p.den : Int) * (q.den : Int) ≠ 0 := Int.mul_ne_zero (den_ne p) (den_ne q)
def SmQ (q : Rat) : Prop := Sm q.num ∧ Sm (q.den : Int)
end TW
set_option Elab.async false
set_option linter.all false
set_option maxRecDepth 100000
set_option maxHeartbeats 4000000
namespace TW
open PySem PySem.Spec PyProof.Rows L2
section
variable {P : Program} {w : World} {K : PySem.W.Frag} {mg : Str → Option Value} {base : Heap}

def m_divisor_of (a b : Int) : Int := ((Nat.gcd a.natAbs b.natAbs : Nat) : Int)
abbrev A_divisor_of (a b : Int) : Prop := True
abbrev s_divisor_of : Stmt := (topS 23)
abbrev N_divisor_of : List Str := ["one", "other"]
theorem sc_divisor_of : FnScope N_divisor_of ["one", "other"] (defScope s_divisor_of) := ⟨rfl, rfl, rfl, by decide +kernel, rfl, by decide +kernel, by decide +kernel⟩
abbrev T_divisor_of (P : Program) (w : World) (K : PySem.W.Frag) (mg : Str → Option Value) (base : Heap) : Prop := Ok P w K mg base "divisor_of" 41 ["one", "other"] (sp2 rI rI A_divisor_of rI m_divisor_of)
theorem ok_divisor_of (T : Tx P K mg base) (d : Df K mg "divisor_of" s_divisor_of) : T_divisor_of P w K mg base := by
  refine mkOk d sc_divisor_of (fun _ _ _ _ _ _ us hl => match us, hl with | [_, _], _ => rfl) len2 fun f cdv A outer s H E hr => ?_
  have nd := sc_divisor_of.nd
  refine ⟨_, (pss_one (ps_ret (pe_callBfun cr_gcd (by rfl) T.gcd (pa_cons (pv 0) (pa_cons (pv 1) pa_nil))))), fin2 (n := 0) rfl ?_⟩
  intro x y G H Q c k
  exact sg_out (eg_gcd (eg_var 0 rfl) (eg_var 1 rfl)) k rfl
def gcdL (r : List Int) : Int := r.foldl (fun c n => if n = 0 then c else m_divisor_of c n) 0
def m_bare_row (r : List Int) : List Int := if 1 < gcdL r then r.map (fun n => n.fdiv (gcdL r)) else r
abbrev A_bare_row (r : List Int) : Prop := True
abbrev s_bare_row : Stmt := (topS 32)
abbrev N_bare_row : List Str := ["row", "common", "number"]
theorem sc_bare_row : FnScope N_bare_row ["row"] (defScope s_bare_row) := ⟨rfl, rfl, rfl, by decide +kernel, rfl, by decide +kernel, by decide +kernel⟩
abbrev T_bare_row (P : Program) (w : World) (K : PySem.W.Frag) (mg : Str → Option Value) (base : Heap) : Prop := Ok P w K mg base "bare_row" 42 ["row"] (sp1 (rL rI) A_bare_row (rL rI) m_bare_row)
theorem ok_bare_row (T : Tx P K mg base) (d : Df K mg "bare_row" s_bare_row) (O_divisor_of : T_divisor_of P w K mg base) : T_bare_row P w K mg base := by
  refine mkOk d sc_bare_row (fun _ _ _ _ _ _ us hl => match us, hl with | [_], _ => rfl) len1 fun f cdv A outer s H E hr => ?_
  have nd := sc_bare_row.nd
  have hS : SeerX (cxOf CX0 P w K mg base N_bare_row "bare_row" (defScope s_bare_row) f cdv A outer s H E).nox := seer_here T rfl rfl hr
  refine ⟨_, (pss_cons (ps_set (i := 1) nd rfl (Or.inr rfl) pe_int)
      (pss_cons (ps_for PassesOwn.never rfl (pi_list (pv 0)) (pg_name (i := 2) nd rfl (Or.inl rfl)) (pss_one (ps_if (pt_cmpR op_ne (pv 2) pe_int (nomark _)) (pss_one (ps_set (i := 1) nd rfl (Or.inr rfl) (pe_callO O_divisor_of (hr.mono (by decide)) (by rfl) (pa_cons (pv 1) (pa_cons (pv 2) pa_nil))))) pss_nil)))
      (pss_one (ps_ret (pe_ifExp (pt_cmpR op_gt (pv 1) pe_int (nomark _)) (pe_lc (own := [("number", 2)]) (g := gName 2) (tt := tYes) rfl nd (pi_list (pv 0)) (blkOk_by (by kernel_rfl)) (fun _ _ _ _ _ => (pg_name (i := 2) nd rfl (by first | exact Or.inl rfl | exact Or.inr rfl))) (fun _ _ _ _ _ => pts_nil) (fun _ _ _ _ _ => (pe_op (op_fdivP hS.blk) (pv 2) (pv 1)))) (pv 0)))))), fin1 (n := 2) rfl ?_⟩
  intro x G H Q c k
  refine sg_seq (sg_asg up_true eg_int ?_)
  refine sg_seq (sg_for up_true (ig_list (eg_var 0 rfl)) (fun n => [.im (rL rI) x, .im rI (gcdL (x.take n)), .no]) ⟨.inr rfl, .inr rfl, .inl rfl, trivial⟩ (fun n a P' hu ha => ⟨_, gl_name, ?_⟩) ?_)
  · have e : gcdL (x.take (n + 1)) = if a = 0 then gcdL (x.take n) else m_divisor_of (gcdL (x.take n)) a := by
      unfold gcdL
      rw [take_succ' ha, List.foldl_append]
      rfl
    refine sg_if hu (tg_val (eg_ne (eg_var 2 rfl) eg_int)) (fun h => ?_) (fun h => ?_)
    · have h' : ¬ a = 0 := by simpa using h
      rw [if_neg h'] at e
      exact sg_asg hu (eg_call2 (eg_var 1 rfl) (eg_var 2 rfl) trivial) (nx_of rfl ⟨.inr rfl, .inr (by rw [e]), .inl rfl, trivial⟩)
    · have h' : a = 0 := by simpa using h
      rw [if_pos h'] at e
      exact sg_next (nx_of rfl ⟨.inr rfl, .inr (by rw [e]), .inl rfl, trivial⟩)
  · rw [List.take_length]
    refine sg_out (eg_if (tg_val (eg_gt (eg_var 1 rfl) eg_int)) (fun h => (en_lc (ig_list (eg_var 0 rfl)) (by decide) (fun n a _ => ⟨_, gt_name (by decide), eg_fdivP (eg_var 2 rfl) (eg_var 1 rfl) ?_⟩)).eg) (fun h => eg_var 0 rfl)) (k.cast ?_) rfl
    · have : 1 < gcdL x := of_decide_eq_true h
      omega
    · unfold m_bare_row
      simp only [decide_eq_true_eq]
end
end TW
set_option Elab.async false
set_option linter.all false
set_option maxRecDepth 100000
set_option maxHeartbeats 4000000
namespace TW
open PySem PySem.Spec PyProof.Rows L2
section
variable {P : Program} {w : World} {K : PySem.W.Frag} {mg : Str → Option Value} {base : Heap}

abbrev A_is_integer (x : NumV) : Prop := True
abbrev m_is_integer (x : NumV) : Bool := x.isI
abbrev s_is_integer : Stmt := (topS 16)
abbrev N_is_integer : List Str := ["value"]
theorem sc_is_integer : FnScope N_is_integer ["value"] (defScope s_is_integer) := ⟨rfl, rfl, rfl, by decide +kernel, rfl, by decide +kernel, by decide +kernel⟩
abbrev T_is_integer (P : Program) (w : World) (K : PySem.W.Frag) (mg : Str → Option Value) (base : Heap) : Prop := Ok P w K mg base "is_integer" 41 ["value"] (sp1 rNV A_is_integer rB m_is_integer)
theorem ok_is_integer (T : Tx P K mg base) (d : Df K mg "is_integer" s_is_integer) : T_is_integer P w K mg base := by
  refine mkOk d sc_is_integer (fun _ _ _ _ _ _ us hl => match us, hl with | [_], _ => rfl) len1 fun f cdv A outer s H E hr => ?_
  have nd := sc_is_integer.nd
  refine ⟨_, (pss_one (ps_ret (pe_and (pe_callB (call_isiK' (K := K) rfl) (by rfl) T.isinstance bt_isinstance (pa_cons (pv 0) (pa_cons (pe_bltn (v := .ty "int") (by rfl) T.int bt_int rfl) pa_nil))) (pe_one (pe_not (pe_callB (call_isiK' (K := K) rfl) (by rfl) T.isinstance bt_isinstance (pa_cons (pv 0) (pa_cons (pe_bltn (v := .ty "bool") (by rfl) T.bool bt_bool rfl) pa_nil)))))))), fin1 (n := 0) rfl ?_⟩
  intro x G H Q c k
  refine sg_out (eg_andV (a := x.isI) (b := true) (eg_isInt T (eg_var 0 rfl)) (fun h => ?_)) (k.cast (by simp)) rfl
  cases x with
  | i n => exact eg_notV (a := false) (eg_isBool (n := n) ((eg_var (x := NumV.i n) 0 rfl).as fun _ _ r => r))
  | q z => cases h
abbrev A_is_list (x : Unit) : Prop := True
abbrev m_is_list (x : Unit) : Bool := true
abbrev s_is_list : Stmt := (topS 18)
abbrev N_is_list : List Str := ["value"]
theorem sc_is_list : FnScope N_is_list ["value"] (defScope s_is_list) := ⟨rfl, rfl, rfl, by decide +kernel, rfl, by decide +kernel, by decide +kernel⟩
abbrev T_is_list (P : Program) (w : World) (K : PySem.W.Frag) (mg : Str → Option Value) (base : Heap) : Prop := Ok P w K mg base "is_list" 41 ["value"] (sp1 rLs A_is_list rB m_is_list)
theorem ok_is_list (T : Tx P K mg base) (d : Df K mg "is_list" s_is_list) : T_is_list P w K mg base := by
  refine mkOk d sc_is_list (fun _ _ _ _ _ _ us hl => match us, hl with | [_], _ => rfl) len1 fun f cdv A outer s H E hr => ?_
  have nd := sc_is_list.nd
  refine ⟨_, (pss_one (ps_ret (pe_callB (call_isiTK (K := K) rfl) (by rfl) T.isinstance bt_isinstance (pa_cons (pv 0) (pa_cons (pe_tup (pa_cons (pe_bltn (v := .ty "list") (by rfl) T.list bt_list rfl) (pa_cons (pe_bltn (v := .ty "tuple") (by rfl) T.tuple bt_tuple rfl) pa_nil))) pa_nil))))), fin1 (n := 0) rfl ?_⟩
  intro x G H Q c k
  exact sg_out (eg_isL (eg_var 0 rfl)) k rfl
abbrev A_want_at_most (x : Unit) (l n : Int) : Prop := n ≤ l
abbrev m_want_at_most (x : Unit) (l n : Int) : Unit := ()
abbrev s_want_at_most : Stmt := (topS 19)
abbrev N_want_at_most : List Str := ["what", "limit", "number"]
theorem sc_want_at_most : FnScope N_want_at_most ["what", "limit", "number"] (defScope s_want_at_most) := ⟨rfl, rfl, rfl, by decide +kernel, rfl, by decide +kernel, by decide +kernel⟩
abbrev T_want_at_most (P : Program) (w : World) (K : PySem.W.Frag) (mg : Str → Option Value) (base : Heap) : Prop := Ok P w K mg base "want_at_most" 41 ["what", "limit", "number"] (sp3 rAny rI rI A_want_at_most rU m_want_at_most)
theorem ok_want_at_most (T : Tx P K mg base) (d : Df K mg "want_at_most" s_want_at_most) : T_want_at_most P w K mg base := by
  refine mkOk d sc_want_at_most (fun _ _ _ _ _ _ us hl => match us, hl with | [_, _, _], _ => rfl) len3 fun f cdv A outer s H E hr => ?_
  have nd := sc_want_at_most.nd
  refine ⟨_, (pss_one (ps_if (pt_cmpR op_gt (pv 2) (pv 1) (nomark _)) pss_never pss_nil)), fin3 (n := 0) rfl ?_⟩
  intro x l n G H Q c k
  refine sg_ifF up_true (tg_val (eg_gt (eg_var 2 rfl) (eg_var 1 rfl))) (by simp; omega) (sg_next fun σ H ⟨G', p, _, _⟩ => ?_)
  exact k _ G' H p rfl
abbrev A_told_pair (q : Rat) : Prop := True
abbrev m_told_pair (q : Rat) : Int × Int := (q.num, (q.den : Int))
abbrev s_told_pair : Stmt := (topS 25)
abbrev N_told_pair : List Str := ["value"]
theorem sc_told_pair : FnScope N_told_pair ["value"] (defScope s_told_pair) := ⟨rfl, rfl, rfl, by decide +kernel, rfl, by decide +kernel, by decide +kernel⟩
abbrev T_told_pair (P : Program) (w : World) (K : PySem.W.Frag) (mg : Str → Option Value) (base : Heap) : Prop := Ok P w K mg base "told_pair" 42 ["value"] (sp1 rQ A_told_pair (rP rI rI) m_told_pair)
theorem ok_told_pair (T : Tx P K mg base) (d : Df K mg "told_pair" s_told_pair) (O_is_integer : T_is_integer P w K mg base) : T_told_pair P w K mg base := by
  refine mkOk d sc_told_pair (fun _ _ _ _ _ _ us hl => match us, hl with | [_], _ => rfl) len1 fun f cdv A outer s H E hr => ?_
  have nd := sc_told_pair.nd
  refine ⟨_, (pss_cons (ps_if (pt_val (pe_callB (call_isiK' (K := K) rfl) (by rfl) T.isinstance bt_isinstance (pa_cons (pv 0) (pa_cons (pe_glob (v := .ref CQ) (by rfl) T.g_Ratio rfl) pa_nil)))) (pss_one (ps_ret (pe_tup (pa_cons (pe_fldK (K := K) rfl (pv 0) rfl) (pa_cons (pe_fldK (K := K) rfl (pv 0) rfl) pa_nil))))) pss_nil)
      (pss_cons (ps_if (pt_not (pt_val (pe_callO O_is_integer (hr.mono (by decide)) (by rfl) (pa_cons (pv 0) pa_nil)))) pss_never pss_nil)
      (pss_one (ps_ret (pe_tup (pa_cons (pv 0) (pa_cons pe_int pa_nil))))))), fin1 (n := 0) rfl ?_⟩
  intro q G H Q c k
  refine sg_seq (sg_ifT up_true (tg_val (eg_isQ T (eg_asQ (eg_var 0 rfl)))) rfl (sg_out (eg_tup (eg_top T.clQ T.ntQ (eg_var 0 rfl)) (eg_bot T.clQ T.nbQ (eg_var 0 rfl))) k rfl))
abbrev A_is_number (x : NumV) : Prop := True
abbrev m_is_number (x : NumV) : Bool := true
abbrev s_is_number : Stmt := (topS 26)
abbrev N_is_number : List Str := ["value"]
theorem sc_is_number : FnScope N_is_number ["value"] (defScope s_is_number) := ⟨rfl, rfl, rfl, by decide +kernel, rfl, by decide +kernel, by decide +kernel⟩
abbrev T_is_number (P : Program) (w : World) (K : PySem.W.Frag) (mg : Str → Option Value) (base : Heap) : Prop := Ok P w K mg base "is_number" 42 ["value"] (sp1 rNV A_is_number rB m_is_number)
theorem ok_is_number (T : Tx P K mg base) (d : Df K mg "is_number" s_is_number) (O_is_integer : T_is_integer P w K mg base) : T_is_number P w K mg base := by
  refine mkOk d sc_is_number (fun _ _ _ _ _ _ us hl => match us, hl with | [_], _ => rfl) len1 fun f cdv A outer s H E hr => ?_
  have nd := sc_is_number.nd
  refine ⟨_, (pss_one (ps_ret (pe_or (pe_callO O_is_integer (hr.mono (by decide)) (by rfl) (pa_cons (pv 0) pa_nil)) (pe_one (pe_callB (call_isiK' (K := K) rfl) (by rfl) T.isinstance bt_isinstance (pa_cons (pv 0) (pa_cons (pe_glob (v := .ref CQ) (by rfl) T.g_Ratio rfl) pa_nil))))))), fin1 (n := 0) rfl ?_⟩
  intro x G H Q c k
  exact sg_out (eg_orV (eg_call1 (eg_var 0 rfl) trivial) (fun h => eg_isQ T (eg_var 0 rfl))) (k.cast (by simp)) rfl
abbrev A_ratio_of (x : NumV) : Prop := True
def m_ratio_of : NumV → Rat
  | .i n => (n : Rat)
  | .q r => r
abbrev s_Ratio_init : Stmt := (inClass (topS 24) 0)
abbrev N_Ratio_init : List Str := ["self", "top", "bottom", "common"]
theorem sc_Ratio_init : FnScope N_Ratio_init ["self", "top", "bottom"] (defScope s_Ratio_init) := ⟨rfl, rfl, rfl, by decide +kernel, rfl, by decide +kernel, by decide +kernel⟩
abbrev T_Ratio_init (P : Program) (w : World) (K : PySem.W.Frag) (mg : Str → Option Value) (base : Heap) : Prop := MkQ P w K mg base 42
theorem ok_Ratio_init (T : Tx P K mg base) (d : Di K s_Ratio_init) (O_is_integer : T_is_integer P w K mg base) (O_divisor_of : T_divisor_of P w K mg base) : T_Ratio_init P w K mg base := by
  refine mkMkQ d sc_Ratio_init (fun _ _ _ _ _ _ _ us its hl hi => match us, its, hl, hi with | [_, _, _], [_], _, _ => ⟨_, rfl, rfl⟩) (fun _ _ _ _ _ _ _ us its hl hi => match us, its, hl, hi with | [_, _], [_], _, _ => ⟨_, rfl, rfl⟩) fun f cdv A outer s H E hr => ?_
  have nd := sc_Ratio_init.nd
  have hS : SeerX (cxOf CX0 P w K mg base N_Ratio_init "Ratio.__init__" (defScope s_Ratio_init) f cdv A outer s H E).nox := seer_here T rfl rfl hr
  refine ⟨_, (pss_cons (ps_if (pt_not (pt_val (pe_callO O_is_integer (hr.mono (by decide)) (by rfl) (pa_cons (pv 1) pa_nil)))) pss_never pss_nil)
      (pss_cons (ps_if (PW.pt (pw_or (pt_not (pt_val (pe_callO O_is_integer (hr.mono (by decide)) (by rfl) (pa_cons (pv 2) pa_nil)))) (pw_or1 (pt_cmpR op_eq (pv 2) pe_int (nomark _))))) pss_never pss_nil)
      (pss_cons (ps_set (i := 3) nd rfl (Or.inl rfl) (pe_callO O_divisor_of (hr.mono (by decide)) (by rfl) (pa_cons (pv 1) (pa_cons (pv 2) pa_nil))))
      (pss_cons (ps_if (pt_cmpR op_lt (pv 2) pe_int (nomark _)) (pss_one (ps_set (i := 3) nd rfl (Or.inl rfl) (pe_op op_sub pe_int (pv 3)))) pss_nil)
      (pss_cons (ps_fld (pv 0) (pe_op (op_fdivP hS) (pv 1) (pv 3)) rfl)
      (pss_one (ps_fld (pv 0) (pe_op (op_fdivP hS) (pv 2) (pv 3)) rfl))))))), ?_⟩
  rintro vs H Q ⟨x, dx, t, b, rfl, hb, hx, k⟩
  have hc := comm_ne (t := t) hb
  have start : Stt (fun _ => none) H (fun _ => True) (.im (rRef x) () :: .im rI t :: .im rI b :: nos 1) (L2.start N_Ratio_init [.ref x, .int t, .int b]) H :=
    ⟨fun _ => none, Step.refl (fun _ _ e => nomatch e), trivial, Ini.ty (.cons rfl (.cons rfl (.cons rfl (.nil 1)))) (by simp [nos_len, N_Ratio_init])⟩
  suffices h : Sg (fun _ => none) H (fun _ => True) (.im (rRef x) () :: .im rI t :: .im rI b :: nos 1) _ { nx := fun _ H' => Q .non H', rt := Q } from h _ _ start
  refine sg_seq (sg_ifF up_true (tg_not (tg_B (eg_call1 (eg_asI (eg_var 1 rfl)) trivial))) rfl (sg_next (nx_go ?_)))
  refine sg_seq (sg_ifF up_true (tg_or (a := false) (b := decide (b = 0)) (tg_not (tg_B (eg_call1 (eg_asI (eg_var 2 rfl)) trivial))) (fun _ => tg_val (eg_eq (eg_var 2 rfl) eg_int))) (by simp [hb]) (sg_next (nx_go ?_)))
  refine sg_seq (sg_asg up_true (eg_call2 (eg_var 1 rfl) (eg_var 2 rfl) trivial) (nx_go ?_))
  have fin : Sg (fun _ => none) H (fun _ => True) (.im (rRef x) () :: .im rI t :: .im rI b :: .im rI (comm t b) :: []) (tSeq (sFld K (tVar 0) (tOp (L2.rI (fun _ j => j ≠ 0) fun i j => .int (i.fdiv j)) (tVar 1) (tVar 3)) "own_top") (sFld K (tVar 0) (tOp (L2.rI (fun _ j => j ≠ 0) fun i j => .int (i.fdiv j)) (tVar 2) (tVar 3)) "own_bottom")) { nx := fun _ H' => Q .non H', rt := Q } := by
    rintro σ H1 ⟨G1, p1, _, ty⟩
    have hx1 : H1 x = some (.ins CQ dx []) := p1.h _ _ hx
    have gx1 : G1 x = none := p1.f x (by rw [hx]; exact fun z => nomatch z) rfl
    refine eg_fdivP (eg_var 1 rfl) (eg_var 3 rfl) hc H σ G1 H1 _ p1.h p1.s ty fun v G2 H2 p2 r2 => ?_
    obtain rfl : v = .int (t.fdiv (comm t b)) := r2
    refine eg_var 0 rfl H σ G2 H2 _ (p1.h.trans p2.h) p2.s (ty.step p2) fun v G3 H3 p3 r3 => ?_
    obtain rfl : v = .ref x := r3
    have hx3 : H3 x = some (.ins CQ dx []) := p3.h _ _ (p2.h _ _ hx1)
    have gx3 : G3 x = none := p3.f x (by rw [p2.h _ _ hx1]; exact fun z => nomatch z) (p2.f x (by rw [hx1]; exact fun z => nomatch z) gx1)
    refine ⟨x, CQ, dx, [], rfl, hx3, T.clQ, T.ntQ, by decide, ?_⟩
    have ty3 := (ty.step p2).step p3
    have sg4 : Same G3 (upd H3 x (.ins CQ dx (putF "own_top" (.int (t.fdiv (comm t b))) []))) := same_out p3.s gx3
    have ty4 : Ty (upd H3 x (.ins CQ dx (putF "own_top" (.int (t.fdiv (comm t b))) []))) (.im (rRef x) () :: .im rI t :: .im rI b :: .im rI (comm t b) :: []) σ G3 (upd H3 x (.ins CQ dx (putF "own_top" (.int (t.fdiv (comm t b))) []))) := by
      refine ⟨ty3.len, fun i => ?_, fun i j l hi => ?_⟩
      · have q := ty3.at_ i
        match i with
        | 0 => exact q
        | 1 => exact q
        | 2 => exact q
        | 3 => exact q
        | i + 4 => exact trivial
      · match i with
        | 0 => cases hi
        | 1 => cases hi
        | 2 => cases hi
        | 3 => cases hi
        | i + 4 => cases hi
    refine eg_fdivP (eg_var 2 rfl) (eg_var 3 rfl) hc _ σ G3 _ _ (Same.refl _) sg4 ty4 fun v G5 H5 p5 r5 => ?_
    obtain rfl : v = .int (b.fdiv (comm t b)) := r5
    refine eg_var 0 rfl _ σ G5 H5 _ p5.h p5.s (ty4.step p5) fun v G6 H6 p6 r6 => ?_
    obtain rfl : v = .ref x := r6
    have hx6 := p6.h _ _ (p5.h _ _ (upd_same (a := x) (o := .ins CQ dx (putF "own_top" (.int (t.fdiv (comm t b))) []))))
    refine ⟨x, CQ, dx, _, rfl, hx6, T.clQ, T.nbQ, by simp [putF], ?_⟩
    refine k _ (fun c o hne e => ?_) ?_
    · rw [upd_ne hne]
      refine p6.h _ _ (p5.h _ _ ?_)
      rw [upd_ne hne]
      exact p3.h _ _ (p2.h _ _ (p1.h _ _ e))
    · rw [upd_same, show putF "own_bottom" (.int (b.fdiv (comm t b))) (putF "own_top" (.int (t.fdiv (comm t b))) []) = qf (Rat.divInt t b) by
        unfold qf
        rw [(divInt_parts hb).1, (divInt_parts hb).2]
        rfl]
  refine sg_seq (sg_if (b := decide (b < 0)) up_true (tg_val (eg_lt (eg_var 2 rfl) eg_int)) (fun h => sg_asg up_true (eg_sub eg_int (eg_var 3 rfl)) ?_) (fun h => sg_next ?_))
  · refine fun σ H1 ⟨G, p, q, ty⟩ => fin σ H1 ⟨G, p, q, ty.weak ⟨.inr rfl, .inr rfl, .inr rfl, .inr ?_, trivial⟩⟩
    unfold comm
    rw [if_pos (of_decide_eq_true h)]
    rfl
  · refine fun σ H1 ⟨G, p, q, ty⟩ => fin σ H1 ⟨G, p, q, ty.weak ⟨.inr rfl, .inr rfl, .inr rfl, .inr ?_, trivial⟩⟩
    unfold comm
    rw [if_neg (of_decide_eq_false h)]
    rfl
abbrev A_top (q : Rat) : Prop := True
abbrev m_top (q : Rat) : Int := q.num
abbrev s_top : Stmt := (inClass (topS 24) 1)
abbrev N_top : List Str := ["self"]
theorem sc_top : FnScope N_top ["self"] (defScope s_top) := ⟨rfl, rfl, rfl, by decide +kernel, rfl, by decide +kernel, by decide +kernel⟩
abbrev T_top (P : Program) (w : World) (K : PySem.W.Frag) (mg : Str → Option Value) (base : Heap) : Prop := Prp P w K mg base "top" 41 (sp1 rQ A_top rI m_top)
theorem ok_top (T : Tx P K mg base) (d : Dp K "top" "Ratio.top" s_top) : T_top P w K mg base := by
  refine mkPrp d sc_top (fun _ _ _ _ _ _ us hl => match us, hl with | [_], _ => rfl) len1 fun f cdv A outer s H E hr => ?_
  have nd := sc_top.nd
  refine ⟨_, (pss_one (ps_ret (pe_fldK (K := K) rfl (pv 0) rfl))), fin1 (n := 0) rfl ?_⟩
  intro q G H Q c k
  exact sg_out (eg_top T.clQ T.ntQ (eg_var 0 rfl)) k rfl
abbrev A_sign (q : Rat) : Prop := True
abbrev m_sign (q : Rat) : Int := q.num.sign
abbrev s_sign : Stmt := (inClass (topS 24) 3)
abbrev N_sign : List Str := ["self"]
theorem sc_sign : FnScope N_sign ["self"] (defScope s_sign) := ⟨rfl, rfl, rfl, by decide +kernel, rfl, by decide +kernel, by decide +kernel⟩
abbrev T_sign (P : Program) (w : World) (K : PySem.W.Frag) (mg : Str → Option Value) (base : Heap) : Prop := Prp P w K mg base "sign" 41 (sp1 rQ A_sign rI m_sign)
theorem ok_sign (T : Tx P K mg base) (d : Dp K "sign" "Ratio.sign" s_sign) : T_sign P w K mg base := by
  refine mkPrp d sc_sign (fun _ _ _ _ _ _ us hl => match us, hl with | [_], _ => rfl) len1 fun f cdv A outer s H E hr => ?_
  have nd := sc_sign.nd
  refine ⟨_, (pss_one (ps_ret (pe_op op_sub (pe_callTy call_int1 (by rfl) T.int bt_int (pa_cons (pe_cmpR op_gt (pe_fldK (K := K) rfl (pv 0) rfl) pe_int (nomark _)) pa_nil)) (pe_callTy call_int1 (by rfl) T.int bt_int (pa_cons (pe_cmpR op_lt (pe_fldK (K := K) rfl (pv 0) rfl) pe_int (nomark _)) pa_nil))))), fin1 (n := 0) rfl ?_⟩
  intro q G H Q c k
  refine sg_out (eg_sub (eg_intB (eg_gt (eg_top T.clQ T.ntQ (eg_var 0 rfl)) eg_int)) (eg_intB (eg_lt (eg_top T.clQ T.ntQ (eg_var 0 rfl)) eg_int))) (k.cast ?_) rfl
  simp only [decide_eq_true_eq, m_sign]
  rcases Int.lt_trichotomy q.num 0 with h | h | h
  · rw [Int.sign_eq_neg_one_of_neg h, if_neg (by omega), if_pos h]; rfl
  · rw [h]; rfl
  · rw [Int.sign_eq_one_of_pos h, if_pos h, if_neg (by omega)]; rfl
abbrev A_add (p q : Rat) : Prop := SmQ p ∧ SmQ q
abbrev m_add (p q : Rat) : Rat := p + q
abbrev s_add : Stmt := (inClass (topS 24) 6)
abbrev N_add : List Str := ["self", "other", "top", "bottom"]
theorem sc_add : FnScope N_add ["self", "other"] (defScope s_add) := ⟨rfl, rfl, rfl, by decide +kernel, rfl, by decide +kernel, by decide +kernel⟩
abbrev T_add (P : Program) (w : World) (K : PySem.W.Frag) (mg : Str → Option Value) (base : Heap) : Prop := Mth P w K mg base "__add__" 44 ["self", "other"] (sp2 rQ rQ A_add rQ m_add)
theorem ok_add (T : Tx P K mg base) (d : Dm K "__add__" "Ratio.__add__" s_add) (MQ : MkQ P w K mg base 42) (O_told_pair : T_told_pair P w K mg base) : T_add P w K mg base := by
  refine mkMth d sc_add (fun _ _ _ _ _ _ us hl => match us, hl with | [_, _], _ => rfl) len2 fun f cdv A outer s H E hr => ?_
  have nd := sc_add.nd
  refine ⟨_, (pss_cons (ps_asg (pe_callO O_told_pair (hr.mono (by decide)) (by rfl) (pa_cons (pv 1) pa_nil)) (pg_tupK (K := K) (n := 2) rfl rfl (pgs_cons (pg_name (i := 2) nd rfl (Or.inl rfl)) (pgs_cons (pg_name (i := 3) nd rfl (Or.inl rfl)) pgs_nil))))
      (pss_one (ps_ret (pe_mkQ2 MQ T.g_Ratio (hr.mono (by decide)) (by rfl) (pa_cons (pe_op op_add (pe_op op_mulP (pe_fldK (K := K) rfl (pv 0) rfl) (pv 3)) (pe_op op_mulP (pv 2) (pe_fldK (K := K) rfl (pv 0) rfl))) (pa_cons (pe_op op_mulP (pe_fldK (K := K) rfl (pv 0) rfl) (pv 3)) pa_nil)))))), fin2 (n := 2) rfl ?_⟩
  intro p q G H Q c k
  refine sg_seq (sg_pair up_true (eg_call1 (eg_var 1 rfl) trivial) ?_)
  refine (sg_out (eg_mkQ2 (eg_add (eg_mulP (eg_top T.clQ T.ntQ (eg_var 0 rfl)) (eg_var 3 rfl) c.1.1 c.2.2) (eg_mulP (eg_var 2 rfl) (eg_bot T.clQ T.nbQ (eg_var 0 rfl)) c.2.1 c.1.2)) (eg_mulP (eg_bot T.clQ T.nbQ (eg_var 0 rfl)) (eg_var 3 rfl) c.1.2 c.2.2) (den2_ne p q)) (k.cast (rat_add p q).symm) rfl)
abbrev A_sub (p q : Rat) : Prop := SmQ p ∧ SmQ q
abbrev m_sub (p q : Rat) : Rat := p - q
abbrev s_sub : Stmt := (inClass (topS 24) 8)
abbrev N_sub : List Str := ["self", "other", "top", "bottom"]
theorem sc_sub : FnScope N_sub ["self", "other"] (defScope s_sub) := ⟨rfl, rfl, rfl, by decide +kernel, rfl, by decide +kernel, by decide +kernel⟩
abbrev T_sub (P : Program) (w : World) (K : PySem.W.Frag) (mg : Str → Option Value) (base : Heap) : Prop := Mth P w K mg base "__sub__" 44 ["self", "other"] (sp2 rQ rQ A_sub rQ m_sub)
theorem ok_sub (T : Tx P K mg base) (d : Dm K "__sub__" "Ratio.__sub__" s_sub) (MQ : MkQ P w K mg base 42) (O_told_pair : T_told_pair P w K mg base) : T_sub P w K mg base := by
  refine mkMth d sc_sub (fun _ _ _ _ _ _ us hl => match us, hl with | [_, _], _ => rfl) len2 fun f cdv A outer s H E hr => ?_
  have nd := sc_sub.nd
  refine ⟨_, (pss_cons (ps_asg (pe_callO O_told_pair (hr.mono (by decide)) (by rfl) (pa_cons (pv 1) pa_nil)) (pg_tupK (K := K) (n := 2) rfl rfl (pgs_cons (pg_name (i := 2) nd rfl (Or.inl rfl)) (pgs_cons (pg_name (i := 3) nd rfl (Or.inl rfl)) pgs_nil))))
      (pss_one (ps_ret (pe_mkQ2 MQ T.g_Ratio (hr.mono (by decide)) (by rfl) (pa_cons (pe_op op_sub (pe_op op_mulP (pe_fldK (K := K) rfl (pv 0) rfl) (pv 3)) (pe_op op_mulP (pv 2) (pe_fldK (K := K) rfl (pv 0) rfl))) (pa_cons (pe_op op_mulP (pe_fldK (K := K) rfl (pv 0) rfl) (pv 3)) pa_nil)))))), fin2 (n := 2) rfl ?_⟩
  intro p q G H Q c k
  refine sg_seq (sg_pair up_true (eg_call1 (eg_var 1 rfl) trivial) ?_)
  refine (sg_out (eg_mkQ2 (eg_sub (eg_mulP (eg_top T.clQ T.ntQ (eg_var 0 rfl)) (eg_var 3 rfl) c.1.1 c.2.2) (eg_mulP (eg_var 2 rfl) (eg_bot T.clQ T.nbQ (eg_var 0 rfl)) c.2.1 c.1.2)) (eg_mulP (eg_bot T.clQ T.nbQ (eg_var 0 rfl)) (eg_var 3 rfl) c.1.2 c.2.2) (den2_ne p q)) (k.cast (rat_sub p q).symm) rfl)
abbrev A_mul (p q : Rat) : Prop := SmQ p ∧ SmQ q
abbrev m_mul (p q : Rat) : Rat := p * q
abbrev s_mul : Stmt := (inClass (topS 24) 10)
abbrev N_mul : List Str := ["self", "other", "top", "bottom"]
theorem sc_mul : FnScope N_mul ["self", "other"] (defScope s_mul) := ⟨rfl, rfl, rfl, by decide +kernel, rfl, by decide +kernel, by decide +kernel⟩
abbrev T_mul (P : Program) (w : World) (K : PySem.W.Frag) (mg : Str → Option Value) (base : Heap) : Prop := Mth P w K mg base "__mul__" 44 ["self", "other"] (sp2 rQ rQ A_mul rQ m_mul)
theorem ok_mul (T : Tx P K mg base) (d : Dm K "__mul__" "Ratio.__mul__" s_mul) (MQ : MkQ P w K mg base 42) (O_told_pair : T_told_pair P w K mg base) : T_mul P w K mg base := by
  refine mkMth d sc_mul (fun _ _ _ _ _ _ us hl => match us, hl with | [_, _], _ => rfl) len2 fun f cdv A outer s H E hr => ?_
  have nd := sc_mul.nd
  refine ⟨_, (pss_cons (ps_asg (pe_callO O_told_pair (hr.mono (by decide)) (by rfl) (pa_cons (pv 1) pa_nil)) (pg_tupK (K := K) (n := 2) rfl rfl (pgs_cons (pg_name (i := 2) nd rfl (Or.inl rfl)) (pgs_cons (pg_name (i := 3) nd rfl (Or.inl rfl)) pgs_nil))))
      (pss_one (ps_ret (pe_mkQ2 MQ T.g_Ratio (hr.mono (by decide)) (by rfl) (pa_cons (pe_op op_mulP (pe_fldK (K := K) rfl (pv 0) rfl) (pv 2)) (pa_cons (pe_op op_mulP (pe_fldK (K := K) rfl (pv 0) rfl) (pv 3)) pa_nil)))))), fin2 (n := 2) rfl ?_⟩
  intro p q G H Q c k
  refine sg_seq (sg_pair up_true (eg_call1 (eg_var 1 rfl) trivial) ?_)
  refine (sg_out (eg_mkQ2 (eg_mulP (eg_top T.clQ T.ntQ (eg_var 0 rfl)) (eg_var 2 rfl) c.1.1 c.2.1) (eg_mulP (eg_bot T.clQ T.nbQ (eg_var 0 rfl)) (eg_var 3 rfl) c.1.2 c.2.2) (den2_ne p q)) (k.cast (rat_mul p q).symm) rfl)
abbrev A_neg (p : Rat) : Prop := True
abbrev m_neg (p : Rat) : Rat := -p
abbrev s_neg : Stmt := (inClass (topS 24) 12)
abbrev N_neg : List Str := ["self"]
theorem sc_neg : FnScope N_neg ["self"] (defScope s_neg) := ⟨rfl, rfl, rfl, by decide +kernel, rfl, by decide +kernel, by decide +kernel⟩
abbrev T_neg (P : Program) (w : World) (K : PySem.W.Frag) (mg : Str → Option Value) (base : Heap) : Prop := Mth P w K mg base "__neg__" 44 ["self"] (sp1 rQ A_neg rQ m_neg)
theorem ok_neg (T : Tx P K mg base) (d : Dm K "__neg__" "Ratio.__neg__" s_neg) (MQ : MkQ P w K mg base 42) : T_neg P w K mg base := by
  refine mkMth d sc_neg (fun _ _ _ _ _ _ us hl => match us, hl with | [_], _ => rfl) len1 fun f cdv A outer s H E hr => ?_
  have nd := sc_neg.nd
  refine ⟨_, (pss_one (ps_ret (pe_mkQ2 MQ T.g_Ratio (hr.mono (by decide)) (by rfl) (pa_cons (pe_op op_sub pe_int (pe_fldK (K := K) rfl (pv 0) rfl)) (pa_cons (pe_fldK (K := K) rfl (pv 0) rfl) pa_nil))))), fin1 (n := 0) rfl ?_⟩
  intro p G H Q c k
  exact (sg_out (eg_mkQ2 (eg_sub eg_int (eg_top T.clQ T.ntQ (eg_var 0 rfl))) (eg_bot T.clQ T.nbQ (eg_var 0 rfl)) (den_ne p)) (k.cast (rat_neg p).symm) rfl)
abbrev A_eq (p q : Rat) : Prop := True
abbrev m_eq (p q : Rat) : Bool := decide (p = q)
abbrev s_eq : Stmt := (inClass (topS 24) 17)
abbrev N_eq : List Str := ["self", "other"]
theorem sc_eq : FnScope N_eq ["self", "other"] (defScope s_eq) := ⟨rfl, rfl, rfl, by decide +kernel, rfl, by decide +kernel, by decide +kernel⟩
abbrev T_eq (P : Program) (w : World) (K : PySem.W.Frag) (mg : Str → Option Value) (base : Heap) : Prop := Mth P w K mg base "__eq__" 41 ["self", "other"] (sp2 rQ rQ A_eq rB m_eq)
theorem ok_eq (T : Tx P K mg base) (d : Dm K "__eq__" "Ratio.__eq__" s_eq) : T_eq P w K mg base := by
  refine mkMth d sc_eq (fun _ _ _ _ _ _ us hl => match us, hl with | [_, _], _ => rfl) len2 fun f cdv A outer s H E hr => ?_
  have nd := sc_eq.nd
  refine ⟨_, (pss_cons (ps_if (pt_not (pt_val (pe_callB (call_isiK' (K := K) rfl) (by rfl) T.isinstance bt_isinstance (pa_cons (pv 1) (pa_cons (pe_glob (v := .ref CQ) (by rfl) T.g_Ratio rfl) pa_nil))))) (pss_one (ps_ret pe_bl)) pss_nil)
      (pss_one (ps_ret (pe_and (pe_cmpR op_eq (pe_fldK (K := K) rfl (pv 0) rfl) (pe_fldK (K := K) rfl (pv 1) rfl) (nomark _)) (pe_one (pe_cmpR op_eq (pe_fldK (K := K) rfl (pv 0) rfl) (pe_fldK (K := K) rfl (pv 1) rfl) (nomark _))))))), fin2 (n := 0) rfl ?_⟩
  intro p q G H Q c k
  refine sg_seq (sg_ifF up_true (tg_not (tg_val (eg_isQ T (eg_asQ (eg_var 1 rfl))))) rfl (sg_next ?_))
  refine (sg_out (eg_andV (eg_eq (eg_top T.clQ T.ntQ (eg_var 0 rfl)) (eg_top T.clQ T.ntQ (eg_var 1 rfl))) (fun _ => eg_eq (eg_bot T.clQ T.nbQ (eg_var 0 rfl)) (eg_bot T.clQ T.nbQ (eg_var 1 rfl)))) (k.cast ?_) rfl)
  by_cases h : p = q
  · subst h
    simp
  · have : ¬ (p.num = q.num ∧ (p.den : Int) = (q.den : Int)) := fun z => h (Rat.ext z.1 (Int.ofNat.inj z.2))
    simp only [m_eq, h, decide_false]
    by_cases h1 : p.num = q.num <;> simp_all
abbrev s_ratio_of : Stmt := (topS 27)
abbrev N_ratio_of : List Str := ["number"]
theorem sc_ratio_of : FnScope N_ratio_of ["number"] (defScope s_ratio_of) := ⟨rfl, rfl, rfl, by decide +kernel, rfl, by decide +kernel, by decide +kernel⟩
abbrev T_ratio_of (P : Program) (w : World) (K : PySem.W.Frag) (mg : Str → Option Value) (base : Heap) : Prop := Ok P w K mg base "ratio_of" 44 ["number"] (sp1 rNV A_ratio_of rQ m_ratio_of)
theorem ok_ratio_of (T : Tx P K mg base) (d : Df K mg "ratio_of" s_ratio_of) (MQ : MkQ P w K mg base 42) : T_ratio_of P w K mg base := by
  refine mkOk d sc_ratio_of (fun _ _ _ _ _ _ us hl => match us, hl with | [_], _ => rfl) len1 fun f cdv A outer s H E hr => ?_
  have nd := sc_ratio_of.nd
  refine ⟨_, (pss_one (ps_ret (pe_ifExp (pt_val (pe_callB (call_isiK' (K := K) rfl) (by rfl) T.isinstance bt_isinstance (pa_cons (pv 0) (pa_cons (pe_glob (v := .ref CQ) (by rfl) T.g_Ratio rfl) pa_nil)))) (pv 0) (pe_mkQ1 MQ T.g_Ratio (hr.mono (by decide)) (by rfl) (pa_cons (pv 0) pa_nil))))), fin1 (n := 0) rfl ?_⟩
  intro x G H Q c k
  refine sg_out (eg_if (x1 := m_ratio_of x) (x2 := m_ratio_of x) (tg_val (eg_isQ T (eg_var 0 rfl))) (fun h => ?_) (fun h => ?_)) (k.cast (by simp)) rfl
  · cases x with
    | i n => cases h
    | q z => exact (eg_var (x := NumV.q z) 0 rfl).as fun _ _ r => r
  · cases x with
    | i n => exact (eg_mkQ1 ((eg_var (x := NumV.i n) 0 rfl).as fun _ _ r => r)).cast (rat_int n)
    | q z => cases h
end
end TW
set_option Elab.async false
set_option linter.all false
set_option maxRecDepth 100000
/-! What the defs of solved compute, in plain Lean. -/
namespace TW
open PySem PySem.Spec PyProof.Rows L2
def at0 (r : List Int) (i : Int) : Int := (r[i.toNat]?).getD 0
def atQ (r : List Rat) (i : Int) : Rat := (r[i.toNat]?).getD 0
def atL {α : Type} (r : List (List α)) (i : Int) : List α := (r[i.toNat]?).getD []
theorem atI_pos {α : Type} {r : List α} {i : Int} (d : α) (h0 : 0 ≤ i) (h : i.toNat < r.length) : L2.atI r i = some ((r[i.toNat]?).getD d) := by
  obtain ⟨n, rfl⟩ := Int.eq_ofNat_of_zero_le h0
  rw [Int.toNat_natCast] at h ⊢
  rw [atI_of (x := r[n]) (by simp [h]), List.getElem?_eq_getElem h]
  rfl
theorem at0_at {r : List Int} {i : Int} (h0 : 0 ≤ i) (h : i.toNat < r.length) : L2.atI r i = some (at0 r i) := atI_pos 0 h0 h
theorem atQ_at {r : List Rat} {i : Int} (h0 : 0 ≤ i) (h : i.toNat < r.length) : L2.atI r i = some (atQ r i) := atI_pos 0 h0 h
theorem atL_at {α : Type} {r : List (List α)} {i : Int} (h0 : 0 ≤ i) (h : i.toNat < r.length) : L2.atI r i = some (atL r i) := atI_pos [] h0 h
def lcmL (r : List Rat) : Int := r.foldl (fun b q => ((Nat.lcm b.natAbs q.den : Nat) : Int)) 1
def m_wholes (r : List Rat) : Int × List Int := (lcmL r, r.map fun q => q.num * (lcmL r).fdiv (q.den : Int))
def A_wholes (r : List Rat) : Prop := (∀ n, Sm (lcmL (r.take n))) ∧ ∀ q ∈ r, SmQ q ∧ Sm ((lcmL r).fdiv (q.den : Int))
def sumQ (r : List Rat) : Rat := r.foldl (· + ·) 0
abbrev m_total_of : List Rat → Rat := sumQ
def A_total_of (r : List Rat) : Prop := (∀ n, SmQ (sumQ (r.take n))) ∧ ∀ q ∈ r, SmQ q
def m_ints_of (rows : List (List Rat)) : List (List Int) := rows.map fun r => (m_wholes r).2
def A_ints_of (rows : List (List Rat)) : Prop := ∀ r ∈ rows, A_wholes r
def inR {α : Type} (r : List α) (i : Int) : Prop := 0 ≤ i ∧ i.toNat < r.length
def m_cleared (row head : List Int) (place : Int) : List Int :=
  if at0 row place = 0 then row else m_bare_row ((row.zip head).map fun p => at0 head place * p.1 - at0 row place * p.2)
def A_cleared (row head : List Int) (place : Int) : Prop := inR row place ∧ (at0 row place ≠ 0 → inR head place ∧ (∀ x ∈ row, Sm x) ∧ ∀ x ∈ head, Sm x)
def firstN (rows : List (List Int)) (place : Int) : Option Nat := rows.findIdx? fun r => decide (at0 r place ≠ 0)
def m_first_at (rows : List (List Int)) (place : Int) : Int := match firstN rows place with
  | some i => (i : Int)
  | none => -1
def A_first_at (rows : List (List Int)) (place : Int) : Prop := ∀ r ∈ rows, inR r place
def m_headed_row (row : List Int) (place : Int) : List Int := if 0 < at0 (m_bare_row row) place then m_bare_row row else (m_bare_row row).map fun n => 0 - n
def A_headed_row (row : List Int) (place : Int) : Prop := inR row place
abbrev Two := List (List Int) × List (List Int)
def othersI (left : List (List Int)) (i : Int) : List (List Int) := left.take i.toNat ++ left.drop (i.toNat + 1)
def stepAt (s : Two) (place i : Int) (head : List Int) : Two := ((othersI s.1 i).map (m_cleared · head place), s.2.map (m_cleared · head place) ++ [head])
def headI (s : Two) (place : Int) : List Int := m_headed_row (atL s.1 (m_first_at s.1 place)) place
def stepI (s : Two) (place : Int) : Two := if 0 ≤ m_first_at s.1 place then stepAt s place (m_first_at s.1 place) (headI s place) else s
def runI (rows : List (List Int)) (k : Nat) : Two := ((List.range k).map fun (m : Nat) => (m : Int)).foldl stepI (rows, [])
def wideI (rows : List (List Int)) : Nat := match rows with
  | [] => 0
  | r :: _ => r.length
def m_int_steps (rows : List (List Int)) : List (List Int) := (runI rows (wideI rows)).2
def A_step (s : Two) (place : Int) : Prop := A_first_at s.1 place ∧ (0 ≤ m_first_at s.1 place → ∀ r ∈ othersI s.1 (m_first_at s.1 place) ++ s.2, A_cleared r (headI s place) place)
def A_int_steps (rows : List (List Int)) : Prop := ∀ k, k < wideI rows → A_step (runI rows k) (k : Int)
def m_head_of (row : List Int) : Int := ((row.findIdx fun x => decide (x ≠ 0) : Nat) : Int)
def A_head_of (row : List Int) : Prop := ∃ x ∈ row, x ≠ 0
def toldRow (row : List Int) : List Rat := row.map fun n => Rat.divInt n (at0 row (m_head_of row))
def m_told_rows (rows : List (List Int)) : List (List Rat) := rows.map toldRow
def A_told_rows (rows : List (List Int)) : Prop := ∀ r ∈ rows, A_head_of r
def m_steps_of (rows : List (List Rat)) : List (List Rat) := m_told_rows (m_int_steps (m_ints_of rows))
def A_steps_of (rows : List (List Rat)) : Prop := A_ints_of rows ∧ A_int_steps (m_ints_of rows) ∧ A_told_rows (m_int_steps (m_ints_of rows))
def nums (r : List Rat) : List Int := r.map fun q => q.num
def headsQ (rows : List (List Rat)) : List Int := rows.map fun r => m_head_of (nums r)
def putRow (free : Int) (row : List Rat) (p : Int × List Rat) : List Rat := row.set p.1.toNat (-(atQ p.2 free))
def unitRow (wide : Nat) (free : Int) : List Rat := ((List.range wide).map fun (m : Nat) => (m : Int)).map fun i => if i = free then 1 else 0
def kerRow (solved : List (List Rat)) (wide : Nat) (free : Int) : List Rat := ((headsQ solved).zip solved).foldl (putRow free) (unitRow wide free)
def kerFound (solved : List (List Rat)) (wide k : Nat) : List (List Rat) := ((((List.range k).map fun (m : Nat) => (m : Int)).filter fun f => !decide (f ∈ headsQ solved))).map (kerRow solved wide)
def m_kernel_of (rows : List (List Rat)) (wide : Int) : List (List Rat) := m_steps_of (kerFound (m_steps_of rows) wide.toNat wide.toNat)
def A_kernel_of (rows : List (List Rat)) (wide : Int) : Prop := 0 ≤ wide ∧ wide < 100000 ∧ A_steps_of rows ∧ (∀ r ∈ m_steps_of rows, A_head_of (nums r) ∧ r.length = wide.toNat) ∧ A_steps_of (kerFound (m_steps_of rows) wide.toNat wide.toNat)
def solPut (wide : Int) (o : Option (List Rat)) (row : List Rat) : Option (List Rat) := match o with
  | none => none
  | some found => if m_head_of (nums row) = wide then none else some (found.set (m_head_of (nums row)).toNat (atQ row wide))
def wideQ (rows : List (List Rat)) : Nat := match rows with
  | [] => 0
  | r :: _ => r.length
def sideRows (rows : List (List Rat)) (goals : List Rat) : List (List Rat) := (rows.zip goals).map fun p => p.1 ++ [p.2]
def m_solution_of (rows : List (List Rat)) (goals : List Rat) : Option (List Rat) := (m_steps_of (sideRows rows goals)).foldl (solPut (wideQ rows : Int)) (some (List.replicate (wideQ rows) 0))
def A_solution_of (rows : List (List Rat)) (goals : List Rat) : Prop := rows ≠ [] ∧ (∀ r ∈ rows, r.length + 1 < big) ∧ A_steps_of (sideRows rows goals) ∧ ∀ r ∈ m_steps_of (sideRows rows goals), A_head_of (nums r) ∧ r.length = wideQ rows + 1
abbrev A_are_numbers (v : List NumV) (wide : Int) : Prop := True
def m_are_numbers (v : List NumV) (wide : Int) : Bool := decide ((v.length : Int) = wide)
end TW
set_option Elab.async false
set_option linter.all false
set_option maxRecDepth 100000
set_option maxHeartbeats 4000000
namespace TW
open PySem PySem.Spec PyProof.Rows L2
theorem bare_len (r : List Int) : (m_bare_row r).length = r.length := by
  unfold m_bare_row
  split <;> simp
theorem lcmL_take {r : List Rat} {n : Nat} {a : Rat} (h : r[n]? = some a) : lcmL (r.take (n + 1)) = ((Nat.lcm (lcmL (r.take n)).natAbs a.den : Nat) : Int) := by
  unfold lcmL
  rw [take_succ' h, List.foldl_append]
  rfl
theorem sumQ_take {r : List Rat} {n : Nat} {a : Rat} (h : r[n]? = some a) : sumQ (r.take (n + 1)) = sumQ (r.take n) + a := by
  unfold sumQ
  rw [take_succ' h, List.foldl_append]
  rfl
theorem mem_of_at {α : Type} {xs : List α} {n : Nat} {a : α} (h : xs[n]? = some a) : a ∈ xs := List.mem_of_getElem? h
section
variable {P : Program} {w : World} {K : PySem.W.Frag} {mg : Str → Option Value} {base : Heap}
abbrev s_wholes : Stmt := (topS 28)
abbrev N_wholes : List Str := ["ratios", "bottom", "ratio"]
theorem sc_wholes : FnScope N_wholes ["ratios"] (defScope s_wholes) := ⟨rfl, rfl, rfl, by decide +kernel, rfl, by decide +kernel, by decide +kernel⟩
abbrev T_wholes (P : Program) (w : World) (K : PySem.W.Frag) (mg : Str → Option Value) (base : Heap) : Prop := Ok P w K mg base "wholes" 41 ["ratios"] (sp1 (rL rQ) A_wholes (rP rI (rL rI)) m_wholes)
theorem ok_wholes (T : Tx P K mg base) (d : Df K mg "wholes" s_wholes) : T_wholes P w K mg base := by
  refine mkOk d sc_wholes (fun _ _ _ _ _ _ us hl => match us, hl with | [_], _ => rfl) len1 fun f cdv A outer s H E hr => ?_
  have nd := sc_wholes.nd
  have hS : SeerX (cxOf CX0 P w K mg base N_wholes "wholes" (defScope s_wholes) f cdv A outer s H E).nox := seer_here T rfl rfl hr
  refine ⟨_, (pss_cons (ps_set (i := 1) nd rfl (Or.inr rfl) pe_int)
      (pss_cons (ps_for PassesOwn.never rfl (pi_listK (K := K) rfl (pv 0)) (pg_name (i := 2) nd rfl (Or.inl rfl)) (pss_one (ps_set (i := 1) nd rfl (Or.inr rfl) (pe_callBfun (cr_lcm hS) (by rfl) T.lcm (pa_cons (pv 1) (pa_cons (pe_fldK (K := K) rfl (pv 2) rfl) pa_nil))))))
      (pss_one (ps_ret (pe_tup (pa_cons (pv 1) (pa_cons (pe_lc (own := [("ratio", 2)]) (g := gName 2) (tt := tYes) rfl nd (pi_listK (K := K) rfl (pv 0)) (blkOk_by (by kernel_rfl)) (fun _ _ _ _ _ => (pg_name (i := 2) nd rfl (by first | exact Or.inl rfl | exact Or.inr rfl))) (fun _ _ _ _ _ => pts_nil) (fun _ _ _ _ _ => (pe_op op_mulP (pe_fldK (K := K) rfl (pv 2) rfl) (pe_op (op_fdivP hS.blk) (pv 1) (pe_fldK (K := K) rfl (pv 2) rfl))))) pa_nil))))))), fin1 (n := 2) rfl ?_⟩
  intro r G H Q c k
  refine sg_seq (sg_asg up_true eg_int ?_)
  refine sg_seq (sg_for up_true (ig_list (eg_var 0 rfl)) (fun n => [.im (rL rQ) r, .im rI (lcmL (r.take n)), .no]) ⟨.inr rfl, .inr rfl, .inl rfl, trivial⟩ (fun n a P' hu ha => ⟨_, gl_name, ?_⟩) ?_)
  · have e := lcmL_take ha
    exact sg_asg hu (eg_lcm (eg_var 1 rfl) (eg_bot T.clQ T.nbQ (eg_var 2 rfl)) (c.1 n) (c.2 a (mem_of_at ha)).1.2) (nx_of rfl ⟨.inr rfl, .inr (by rw [e]; rfl), .inl rfl, trivial⟩)
  · rw [List.take_length]
    refine sg_out (eg_tup (eg_var 1 rfl) (en_lc (f := fun q : Rat => q.num * (lcmL r).fdiv (q.den : Int)) (ig_list (eg_var 0 rfl)) (by decide) (fun n a ha => ⟨_, gt_name (by decide), eg_mulP (eg_top T.clQ T.ntQ (eg_var 2 rfl)) (eg_fdivP (eg_var 1 rfl) (eg_bot T.clQ T.nbQ (eg_var 2 rfl)) (den_ne a)) (c.2 a (mem_of_at ha)).1.1 (c.2 a (mem_of_at ha)).2⟩)).eg) k rfl
abbrev s_total_of : Stmt := (topS 29)
abbrev N_total_of : List Str := ["ratios", "found", "ratio"]
theorem sc_total_of : FnScope N_total_of ["ratios"] (defScope s_total_of) := ⟨rfl, rfl, rfl, by decide +kernel, rfl, by decide +kernel, by decide +kernel⟩
abbrev T_total_of (P : Program) (w : World) (K : PySem.W.Frag) (mg : Str → Option Value) (base : Heap) : Prop := Ok P w K mg base "total_of" 45 ["ratios"] (sp1 (rL rQ) A_total_of rQ m_total_of)
theorem ok_total_of (T : Tx P K mg base) (d : Df K mg "total_of" s_total_of) (MQ : MkQ P w K mg base 42) (M_add : T_add P w K mg base) : T_total_of P w K mg base := by
  refine mkOk d sc_total_of (fun _ _ _ _ _ _ us hl => match us, hl with | [_], _ => rfl) len1 fun f cdv A outer s H E hr => ?_
  have nd := sc_total_of.nd
  refine ⟨_, (pss_cons (ps_set (i := 1) nd rfl (Or.inl rfl) (pe_mkQ1 MQ T.g_Ratio (hr.mono (by decide)) (by rfl) (pa_cons pe_int pa_nil)))
      (pss_cons (ps_for PassesOwn.never rfl (pi_listK (K := K) rfl (pv 0)) (pg_name (i := 2) nd rfl (Or.inl rfl)) (pss_one (ps_set (i := 1) nd rfl (Or.inl rfl) (pe_op (op_ownO M_add T.selfQ (hr.mono (by decide))) (pv 1) (pv 2)))))
      (pss_one (ps_ret (pv 1))))), fin1 (n := 2) rfl ?_⟩
  intro r G H Q c k
  refine sg_seq (sg_asg up_true (eg_mkQ1 eg_int) ?_)
  refine sg_seq (sg_for up_true (ig_list (eg_var 0 rfl)) (fun n => [.im (rL rQ) r, .im rQ (sumQ (r.take n)), .no]) ⟨.inr rfl, .inr rfl, .inl rfl, trivial⟩ (fun n a P' hu ha => ⟨_, gl_name, ?_⟩) ?_)
  · have e := sumQ_take ha
    exact sg_asg hu (eg_own (eg_var 1 rfl) (eg_var 2 rfl) ⟨c.1 n, c.2 a (mem_of_at ha)⟩) (nx_of rfl ⟨.inr rfl, .inr (by rw [e]), .inl rfl, trivial⟩)
  · rw [List.take_length]
    exact sg_out (eg_var 1 rfl) k rfl
abbrev s_ints_of : Stmt := (topS 31)
abbrev N_ints_of : List Str := ["rows", "row"]
theorem sc_ints_of : FnScope N_ints_of ["rows"] (defScope s_ints_of) := ⟨rfl, rfl, rfl, by decide +kernel, rfl, by decide +kernel, by decide +kernel⟩
abbrev T_ints_of (P : Program) (w : World) (K : PySem.W.Frag) (mg : Str → Option Value) (base : Heap) : Prop := Ok P w K mg base "ints_of" 42 ["rows"] (sp1 (rL (rL rQ)) A_ints_of (rL (rL rI)) m_ints_of)
theorem ok_ints_of (T : Tx P K mg base) (d : Df K mg "ints_of" s_ints_of) (O_wholes : T_wholes P w K mg base) : T_ints_of P w K mg base := by
  refine mkOk d sc_ints_of (fun _ _ _ _ _ _ us hl => match us, hl with | [_], _ => rfl) len1 fun f cdv A outer s H E hr => ?_
  have nd := sc_ints_of.nd
  refine ⟨_, (pss_one (ps_ret (pe_lc (own := [("row", 1)]) (g := gName 1) (tt := tYes) rfl nd (pi_listK (K := K) rfl (pv 0)) (blkOk_by (by kernel_rfl)) (fun _ _ _ _ _ => (pg_name (i := 1) nd rfl (by first | exact Or.inl rfl | exact Or.inr rfl))) (fun _ _ _ _ _ => pts_nil) (fun _ _ _ _ _ => (pe_ix (ix_tupK (K := K) rfl) (pe_callO O_wholes (hr.mono (by decide)) (by rfl) (pa_cons (pv 1) pa_nil)) pe_int (fun _ _ => rfl)))))), fin1 (n := 1) rfl ?_⟩
  intro r G H Q c k
  exact sg_out (en_lc (f := fun r => (m_wholes r).2) (ig_list (eg_var 0 rfl)) (by decide) (fun n a ha => ⟨_, gt_name (by decide), eg_snd (eg_call1 (eg_var 1 rfl) (c a (mem_of_at ha))) eg_int⟩)).eg k rfl
abbrev s_cleared : Stmt := (topS 33)
abbrev N_cleared : List Str := ["row", "head", "place", "near", "far"]
theorem sc_cleared : FnScope N_cleared ["row", "head", "place"] (defScope s_cleared) := ⟨rfl, rfl, rfl, by decide +kernel, rfl, by decide +kernel, by decide +kernel⟩
abbrev T_cleared (P : Program) (w : World) (K : PySem.W.Frag) (mg : Str → Option Value) (base : Heap) : Prop := Ok P w K mg base "cleared" 43 ["row", "head", "place"] (sp3 (rL rI) (rL rI) rI A_cleared (rL rI) m_cleared)
theorem ok_cleared (T : Tx P K mg base) (d : Df K mg "cleared" s_cleared) (O_bare_row : T_bare_row P w K mg base) : T_cleared P w K mg base := by
  refine mkOk d sc_cleared (fun _ _ _ _ _ _ us hl => match us, hl with | [_, _, _], _ => rfl) len3 fun f cdv A outer s H E hr => ?_
  have nd := sc_cleared.nd
  refine ⟨_, (pss_cons (ps_if (pt_cmpR op_eq (pe_ix (ix_listK (K := K) rfl) (pv 0) (pv 2) (fun _ _ => rfl)) pe_int (nomark _)) (pss_one (ps_ret (pv 0))) pss_nil)
      (pss_one (ps_ret (pe_callO O_bare_row (hr.mono (by decide)) (by rfl) (pa_cons (pe_lc (own := [("near", 3), ("far", 4)]) (tt := tYes) rfl nd (pi_zipK (K := K) rfl (by rfl) T.zip (pa_cons (pv 0) (pa_cons (pv 1) pa_nil))) (blkOk_by (by kernel_rfl)) (fun _ _ _ _ _ => (pg_tupK (K := K) (n := 2) rfl rfl (pgs_cons (pg_name (i := 3) nd rfl (by first | exact Or.inl rfl | exact Or.inr rfl)) (pgs_cons (pg_name (i := 4) nd rfl (by first | exact Or.inl rfl | exact Or.inr rfl)) pgs_nil)))) (fun _ _ _ _ _ => pts_nil) (fun _ _ _ _ _ => (pe_op op_sub (pe_op op_mulP (pe_ix (ix_listK (K := K) rfl) (pv 1) (pv 2) (fun _ _ => rfl)) (pv 3)) (pe_op op_mulP (pe_ix (ix_listK (K := K) rfl) (pv 0) (pv 2) (fun _ _ => rfl)) (pv 4))))) pa_nil))))), fin3 (n := 2) rfl ?_⟩
  intro row head place G H Q c k
  refine sg_seq (sg_if (b := decide (at0 row place = 0)) up_true (tg_val (eg_eq (eg_ix (eg_var 0 rfl) (eg_var 2 rfl) (at0_at c.1.1 c.1.2)) eg_int)) (fun h => ?_) (fun h => sg_next (nx_go ?_)))
  · refine sg_out (eg_var 0 rfl) (k.cast ?_) rfl
    unfold m_cleared
    rw [if_pos (of_decide_eq_true h)]
  · have h' := of_decide_eq_false h
    obtain ⟨hp, cr, ch⟩ := c.2 h'
    refine sg_out (eg_call1 (en_lc (f := fun p : Int × Int => at0 head place * p.1 - at0 row place * p.2) (ig_zip (eg_var 0 rfl) (eg_var 1 rfl)) (by decide) (fun n a ha => ⟨_, gt_pair (gt_name (by decide)) (gt_name (by decide)), eg_sub (eg_mulP (eg_ix (eg_var 1 rfl) (eg_var 2 rfl) (at0_at hp.1 hp.2)) (eg_var 3 rfl) (ch _ ?_) (cr _ ?_)) (eg_mulP (eg_ix (eg_var 0 rfl) (eg_var 2 rfl) (at0_at c.1.1 c.1.2)) (eg_var 4 rfl) (cr _ ?_) (ch _ ?_))⟩)).eg trivial) (k.cast ?_) rfl
    · unfold at0
      rw [List.getElem?_eq_getElem hp.2]
      exact List.getElem_mem hp.2
    · exact (List.of_mem_zip (mem_of_at ha)).1
    · unfold at0
      rw [List.getElem?_eq_getElem c.1.2]
      exact List.getElem_mem c.1.2
    · exact (List.of_mem_zip (mem_of_at ha)).2
    · unfold m_cleared
      rw [if_neg h']
abbrev s_first_at : Stmt := (topS 34)
abbrev N_first_at : List Str := ["rows", "place", "at", "row"]
theorem sc_first_at : FnScope N_first_at ["rows", "place"] (defScope s_first_at) := ⟨rfl, rfl, rfl, by decide +kernel, rfl, by decide +kernel, by decide +kernel⟩
abbrev T_first_at (P : Program) (w : World) (K : PySem.W.Frag) (mg : Str → Option Value) (base : Heap) : Prop := Ok P w K mg base "first_at" 41 ["rows", "place"] (sp2 (rL (rL rI)) rI A_first_at rI m_first_at)
theorem ok_first_at (T : Tx P K mg base) (d : Df K mg "first_at" s_first_at) : T_first_at P w K mg base := by
  refine mkOk d sc_first_at (fun _ _ _ _ _ _ us hl => match us, hl with | [_, _], _ => rfl) len2 fun f cdv A outer s H E hr => ?_
  have nd := sc_first_at.nd
  refine ⟨_, (pss_cons (ps_for PassesOwn.never rfl (pi_enumK (K := K) rfl (by rfl) T.enumerate (pa_cons (pv 0) pa_nil)) (pg_tupK (K := K) (n := 2) rfl rfl (pgs_cons (pg_name (i := 2) nd rfl (Or.inl rfl)) (pgs_cons (pg_name (i := 3) nd rfl (Or.inl rfl)) pgs_nil))) (pss_one (ps_if (pt_cmpR op_ne (pe_ix (ix_listK (K := K) rfl) (pv 3) (pv 1) (fun _ _ => rfl)) pe_int (nomark _)) (pss_one (ps_ret (pv 2))) pss_nil)))
      (pss_one (ps_ret (pe_un un_neg pe_int)))), fin2 (n := 2) rfl ?_⟩
  intro rows place G H Q c k
  refine sg_seq (sg_forJ up_true (ig_enum (eg_var 0 rfl)) (fun n => [.im (rL (rL rI)) rows, .im rI place, .no, .no]) (fun n => ∀ m r, m < n → rows[m]? = some r → at0 r place = 0) ⟨.inr rfl, .inr rfl, .inl rfl, .inl rfl, trivial⟩ (fun m r h => absurd h (Nat.not_lt_zero _)) (fun n a P' hu j ha => ⟨_, gl_pair, ?_⟩) fun j => ?_)
  · have hn : n < rows.length := by
      have := (List.getElem?_eq_some_iff.mp ha).1
      rw [enumL_len] at this
      exact this
    have e := enumL_at (xs := rows) (i := n) (List.getElem?_eq_getElem hn)
    rw [e] at ha
    cases ha
    have ir := c _ (List.getElem_mem hn)
    refine sg_if (b := !decide (at0 rows[n] place = 0)) hu (tg_val (eg_ne (eg_ix (eg_var 3 rfl) (eg_var 1 rfl) (at0_at ir.1 ir.2)) eg_int)) (fun h => ?_) (fun h => ?_)
    · refine sg_out (eg_var 2 rfl) (k.cast ?_) rfl
      have e2 : firstN rows place = some n := by
        unfold firstN
        rw [List.findIdx?_eq_some_iff_getElem]
        refine ⟨hn, by simpa using h, fun m hm => ?_⟩
        have := j m rows[m] hm (List.getElem?_eq_getElem (by omega))
        simp [this]
      unfold m_first_at
      rw [e2]
    · refine sg_next (nx_ofJ rfl ⟨.inr rfl, .inr rfl, .inl rfl, .inl rfl, trivial⟩ fun m r hm hr => ?_)
      rcases Nat.lt_or_ge m n with h1 | h1
      · exact j m r h1 hr
      · have : m = n := by omega
        subst this
        rw [List.getElem?_eq_getElem hn] at hr
        cases hr
        simpa using h
  · refine sg_out (eg_neg eg_int) (k.cast ?_) rfl
    have e2 : firstN rows place = none := by
      unfold firstN
      rw [List.findIdx?_eq_none_iff]
      intro r hr
      obtain ⟨m, hm, rfl⟩ := List.getElem_of_mem hr
      have := j m rows[m] (by rw [enumL_len]; exact hm) (List.getElem?_eq_getElem hm)
      simp [this]
    unfold m_first_at
    rw [e2]
abbrev s_headed_row : Stmt := (topS 35)
abbrev N_headed_row : List Str := ["row", "place", "found", "number"]
theorem sc_headed_row : FnScope N_headed_row ["row", "place"] (defScope s_headed_row) := ⟨rfl, rfl, rfl, by decide +kernel, rfl, by decide +kernel, by decide +kernel⟩
abbrev T_headed_row (P : Program) (w : World) (K : PySem.W.Frag) (mg : Str → Option Value) (base : Heap) : Prop := Ok P w K mg base "headed_row" 43 ["row", "place"] (sp2 (rL rI) rI A_headed_row (rL rI) m_headed_row)
theorem ok_headed_row (T : Tx P K mg base) (d : Df K mg "headed_row" s_headed_row) (O_bare_row : T_bare_row P w K mg base) : T_headed_row P w K mg base := by
  refine mkOk d sc_headed_row (fun _ _ _ _ _ _ us hl => match us, hl with | [_, _], _ => rfl) len2 fun f cdv A outer s H E hr => ?_
  have nd := sc_headed_row.nd
  refine ⟨_, (pss_cons (ps_set (i := 2) nd rfl (Or.inl rfl) (pe_callO O_bare_row (hr.mono (by decide)) (by rfl) (pa_cons (pv 0) pa_nil)))
      (pss_one (ps_ret (pe_ifExp (pt_cmpR op_gt (pe_ix (ix_listK (K := K) rfl) (pv 2) (pv 1) (fun _ _ => rfl)) pe_int (nomark _)) (pv 2) (pe_lc (own := [("number", 3)]) (g := gName 3) (tt := tYes) rfl nd (pi_listK (K := K) rfl (pv 2)) (blkOk_by (by kernel_rfl)) (fun _ _ _ _ _ => (pg_name (i := 3) nd rfl (by first | exact Or.inl rfl | exact Or.inr rfl))) (fun _ _ _ _ _ => pts_nil) (fun _ _ _ _ _ => (pe_op op_sub pe_int (pv 3)))))))), fin2 (n := 2) rfl ?_⟩
  intro row place G H Q c k
  have ir : inR (m_bare_row row) place := ⟨c.1, by rw [bare_len]; exact c.2⟩
  refine sg_seq (sg_asg up_true (eg_call1 (eg_var 0 rfl) trivial) ?_)
  refine sg_out (eg_if (b := decide (0 < at0 (m_bare_row row) place)) (tg_val (eg_gt (eg_ix (eg_var 2 rfl) (eg_var 1 rfl) (at0_at ir.1 ir.2)) eg_int)) (fun h => eg_var 2 rfl) (fun h => (en_lc (ig_list (eg_var 2 rfl)) (by decide) (fun n a ha => ⟨_, gt_name (by decide), eg_sub eg_int (eg_var 3 rfl)⟩)).eg)) (k.cast ?_) rfl
  unfold m_headed_row
  simp only [decide_eq_true_eq]
abbrev s_head_of : Stmt := (topS 37)
abbrev N_head_of : List Str := ["row", "place"]
theorem sc_head_of : FnScope N_head_of ["row"] (defScope s_head_of) := ⟨rfl, rfl, rfl, by decide +kernel, rfl, by decide +kernel, by decide +kernel⟩
abbrev T_head_of (P : Program) (w : World) (K : PySem.W.Frag) (mg : Str → Option Value) (base : Heap) : Prop := Ok P w K mg base "head_of" 41 ["row"] (sp1 (rL rI) A_head_of rI m_head_of)
theorem ok_head_of (T : Tx P K mg base) (d : Df K mg "head_of" s_head_of) : T_head_of P w K mg base := by
  refine mkOk d sc_head_of (fun _ _ _ _ _ _ us hl => match us, hl with | [_], _ => rfl) len1 fun f cdv A outer s H E hr => ?_
  have nd := sc_head_of.nd
  refine ⟨_, (pss_cons (ps_set (i := 1) nd rfl (Or.inl rfl) pe_int)
      (pss_cons (ps_while PassesOwn.never (pt_cmpR op_eq (pe_ix (ix_listK (K := K) rfl) (pv 0) (pv 1) (fun _ _ => rfl)) pe_int (nomark _)) (pss_one (ps_set (i := 1) nd rfl (Or.inl rfl) (pe_op op_add (pv 1) pe_int))))
      (pss_one (ps_ret (pv 1))))), fin1 (n := 1) rfl ?_⟩
  intro row G H Q c k
  refine sg_seq (sg_asg up_true eg_int ?_)
  have hex : m_head_of row < row.length := by
    unfold m_head_of
    obtain ⟨x, hx, h⟩ := c
    have := List.findIdx_lt_length_of_exists (p := fun x : Int => decide (x ≠ 0)) ⟨x, hx, by simpa using h⟩
    omega
  refine sg_seq (sg_while up_true { p : Nat // (p : Int) ≤ m_head_of row } (fun p => [.im (rL rI) row, .im rI (p.1 : Int)]) (fun p => (m_head_of row).toNat - p.1) ⟨0, by unfold m_head_of; omega⟩ ⟨.inr rfl, .inr rfl, trivial⟩ fun p => ⟨decide (at0 row (p.1 : Int) = 0), tg_val (eg_eq (eg_ix (eg_var 0 rfl) (eg_var 1 rfl) (at0_at (by omega) (by have := p.2; omega))) eg_int), fun h => ?_, fun h => ?_⟩)
  · have h' := of_decide_eq_true h
    have hne : (p.1 : Int) ≠ m_head_of row := by
      intro e
      rw [e] at h'
      unfold m_head_of at h' hex
      unfold at0 at h'
      rw [Int.toNat_natCast, List.getElem?_eq_getElem (by omega)] at h'
      have := List.findIdx_getElem (p := fun x : Int => decide (x ≠ 0)) (xs := row) (w := by omega)
      simp only [decide_eq_true_eq] at this
      exact this h'
    have := p.2
    refine ⟨⟨p.1 + 1, by omega⟩, by show (m_head_of row).toNat - (p.1 + 1) < (m_head_of row).toNat - p.1; omega, ?_⟩
    exact sg_asg up_true (eg_add (eg_var 1 rfl) eg_int) (nx_of rfl ⟨.inr rfl, .inr (by simp), trivial⟩)
  · have h' := of_decide_eq_false h
    refine sg_out (eg_var 1 rfl) (k.cast ?_) rfl
    have := p.2
    rcases Nat.lt_or_ge p.1 (row.findIdx fun x => decide (x ≠ 0)) with h1 | h1
    · exfalso
      have h2 := List.not_of_lt_findIdx h1
      apply h'
      unfold at0
      unfold m_head_of at hex
      rw [Int.toNat_natCast, List.getElem?_eq_getElem (by omega)]
      simpa using h2
    · unfold m_head_of at this ⊢
      omega
abbrev s_told_rows : Stmt := (topS 38)
abbrev N_told_rows : List Str := ["steps_now", "found", "row", "head", "number"]
theorem sc_told_rows : FnScope N_told_rows ["steps_now"] (defScope s_told_rows) := ⟨rfl, rfl, rfl, by decide +kernel, rfl, by decide +kernel, by decide +kernel⟩
abbrev T_told_rows (P : Program) (w : World) (K : PySem.W.Frag) (mg : Str → Option Value) (base : Heap) : Prop := Ok P w K mg base "told_rows" 44 ["steps_now"] (sp1 (rL (rL rI)) A_told_rows (rL (rL rQ)) m_told_rows)
theorem ok_told_rows (T : Tx P K mg base) (d : Df K mg "told_rows" s_told_rows) (MQ : MkQ P w K mg base 42) (O_head_of : T_head_of P w K mg base) : T_told_rows P w K mg base := by
  refine mkOk d sc_told_rows (fun _ _ _ _ _ _ us hl => match us, hl with | [_], _ => rfl) len1 fun f cdv A outer s H E hr => ?_
  have nd := sc_told_rows.nd
  refine ⟨_, (pss_cons (ps_set (i := 1) nd rfl (Or.inl rfl) (pe_lst pa_nil))
      (pss_cons (ps_for PassesOwn.never rfl (pi_listK (K := K) rfl (pv 0)) (pg_name (i := 2) nd rfl (Or.inl rfl)) (pss_cons (ps_set (i := 3) nd rfl (Or.inr rfl) (pe_ix (ix_listK (K := K) rfl) (pv 2) (pe_callO O_head_of (hr.mono (by decide)) (by rfl) (pa_cons (pv 2) pa_nil)) (fun _ _ => rfl)))
      (pss_one (ps_expr (pe_bm PySem.F.plainAttrs_list PySem.F.slot_list_append PySem.F.type_list_append mt_append (pv 1) (pa_cons (pe_lc (own := [("number", 4)]) (g := gName 4) (tt := tYes) rfl nd (pi_listK (K := K) rfl (pv 2)) (blkOk_by (by kernel_rfl)) (fun _ _ _ _ _ => (pg_name (i := 4) nd rfl (by first | exact Or.inl rfl | exact Or.inr rfl))) (fun _ _ _ _ _ => pts_nil) (fun _ _ _ _ _ => (pe_mkQ2 MQ T.g_Ratio (hr.mono (by decide)) (by rfl) (pa_cons (pv 4) (pa_cons (pv 3) pa_nil))))) pa_nil))))))
      (pss_one (ps_ret (pv 1))))), fin1 (n := 4) rfl ?_⟩
  intro rows G H Q c k
  refine sg_len (n := 0) rfl fun z => ?_
  refine sg_seq (sg_own up_true (by simp [nos]) (en_nil (rL rQ)) ?_)
  refine sg_seq (sg_for up_true (ig_list (eg_var 0 rfl)) (fun n => [.im (rL (rL rI)) rows, .own (rL rQ) ((rows.take n).map toldRow), .no, .no, .no]) ⟨.inr rfl, .inr (by rfl), .inl rfl, .inl rfl, .inl rfl, trivial⟩ (fun n a P' hu ha => ⟨_, gl_name, ?_⟩) ?_)
  · have ca := c a (mem_of_at ha)
    have e : (rows.take (n + 1)).map toldRow = (rows.take n).map toldRow ++ [toldRow a] := by rw [take_succ' ha, List.map_append]; rfl
    have hlt : m_head_of a < a.length := by
      obtain ⟨x, hx, h⟩ := ca
      have := List.findIdx_lt_length_of_exists (p := fun x : Int => decide (x ≠ 0)) ⟨x, hx, by simpa using h⟩
      unfold m_head_of
      omega
    have hh : (m_head_of a).toNat < a.length := by unfold m_head_of at hlt ⊢; omega
    have hnz : at0 a (m_head_of a) ≠ 0 := by
      unfold at0 m_head_of at *
      rw [Int.toNat_natCast] at *
      rw [List.getElem?_eq_getElem (by omega)]
      have := List.findIdx_getElem (p := fun x : Int => decide (x ≠ 0)) (xs := a) (w := by omega)
      simpa using this
    refine sg_seq (sg_asg hu (eg_ix (eg_var 2 rfl) (eg_call1 (eg_var 2 rfl) ca) (at0_at (by unfold m_head_of; omega) hh)) ?_)
    refine sg_append hu rfl (en_lc (f := fun n => Rat.divInt n (at0 a (m_head_of a))) (ig_list (eg_var 2 rfl)) (by decide) (fun m b hb => ⟨_, gt_name (by decide), eg_mkQ2 (eg_var 4 rfl) (eg_var 3 rfl) hnz⟩)).eg ?_ (nx_of rfl ⟨.inr rfl, .inr (by rw [e]; rfl), .inl rfl, .inl rfl, .inl rfl, trivial⟩)
    have := (List.getElem?_eq_some_iff.mp ha).1
    rw [List.length_map, List.length_take]
    omega
  · rw [List.take_length]
    exact sg_freeze (n := 1) up_true rfl (sg_out (eg_var 1 rfl) k rfl)
abbrev s_are_numbers : Stmt := (topS 42)
abbrev N_are_numbers : List Str := ["value", "wide", "number"]
theorem sc_are_numbers : FnScope N_are_numbers ["value", "wide"] (defScope s_are_numbers) := ⟨rfl, rfl, rfl, by decide +kernel, rfl, by decide +kernel, by decide +kernel⟩
abbrev T_are_numbers (P : Program) (w : World) (K : PySem.W.Frag) (mg : Str → Option Value) (base : Heap) : Prop := Ok P w K mg base "are_numbers" 43 ["value", "wide"] (sp2 (rL rNV) rI A_are_numbers rB m_are_numbers)
theorem ok_are_numbers (T : Tx P K mg base) (d : Df K mg "are_numbers" s_are_numbers) (O_is_number : T_is_number P w K mg base) (O_is_list : T_is_list P w K mg base) : T_are_numbers P w K mg base := by
  refine mkOk d sc_are_numbers (fun _ _ _ _ _ _ us hl => match us, hl with | [_, _], _ => rfl) len2 fun f cdv A outer s H E hr => ?_
  have nd := sc_are_numbers.nd
  refine ⟨_, (pss_one (ps_ret (pe_and (pe_callO O_is_list (hr.mono (by decide)) (by rfl) (pa_cons (pv 0) pa_nil)) (pe_and (pe_cmpR op_eq (pe_callB (call_lenK (K := K) rfl) (by rfl) T.len bt_len (pa_cons (pv 0) pa_nil)) (pv 1) (nomark _)) (pe_one (pe_callB (cr_allK (K := K) rfl rfl) (by rfl) T.all bt_all (pa_cons (pe_lc (own := [("number", 2)]) (g := gName 2) (tt := tYes) rfl nd (pi_listK (K := K) rfl (pv 0)) (blkOk_by (by kernel_rfl)) (fun _ _ _ _ _ => (pg_name (i := 2) nd rfl (by first | exact Or.inl rfl | exact Or.inr rfl))) (fun _ _ _ _ _ => pts_nil) (fun _ _ _ _ _ => (pe_callO O_is_number (hr.mono (by decide)) (by rfl) (pa_cons (pv 2) pa_nil)))) pa_nil))))))), fin2 (n := 1) rfl ?_⟩
  intro v wide G H Q c k
  refine sg_out (eg_andV (a := true) (b := decide ((v.length : Int) = wide)) (eg_call1 ((eg_var 0 rfl).as fun G v r => rL_ls r) trivial) (fun _ => (eg_andV (eg_eq (eg_len (eg_var 0 rfl)) (eg_var 1 rfl)) (fun _ => eg_all (en_lc (f := fun _ => true) (ig_list (eg_var 0 rfl)) (by decide) (fun m b hb => ⟨_, gt_name (by decide), eg_call1 (eg_var 2 rfl) trivial⟩)).eg)).cast ?_)) (k.cast ?_) rfl
  · simp
  · unfold m_are_numbers
    simp
end
end TW
set_option Elab.async false
set_option linter.all false
set_option maxRecDepth 100000
set_option maxHeartbeats 4000000
namespace TW
open PySem PySem.Spec PyProof.Rows L2
theorem cut_take {α : Type} (xs : List α) {i : Int} (h0 : 0 ≤ i) (h : i.toNat ≤ xs.length) : cutL xs none (some i) = xs.take i.toNat := by
  obtain ⟨n, rfl⟩ := Int.eq_ofNat_of_zero_le h0
  unfold cutL
  rw [HT.sIx_nat, HT.sIx_none]
  rw [Int.toNat_natCast] at h ⊢
  simp only [List.drop_zero, Nat.sub_zero]
  rw [Nat.min_eq_left h]
theorem cut_drop {α : Type} (xs : List α) {i : Int} (h0 : 0 ≤ i) (h : i.toNat ≤ xs.length) : cutL xs (some i) none = xs.drop i.toNat := by
  obtain ⟨n, rfl⟩ := Int.eq_ofNat_of_zero_le h0
  unfold cutL
  rw [HT.sIx_nat, HT.sIx_none]
  rw [Int.toNat_natCast] at h ⊢
  rw [Nat.min_eq_left h, List.take_of_length_le (by rw [List.length_drop]; exact Nat.le_refl _)]
theorem cut_mid {α : Type} (xs : List α) {i j : Int} (h0 : 0 ≤ i) (h1 : i ≤ j) : cutL xs (some i) (some j) = (xs.drop i.toNat).take (j - i).toNat := by
  obtain ⟨n, rfl⟩ := Int.eq_ofNat_of_zero_le h0
  obtain ⟨m, rfl⟩ := Int.eq_ofNat_of_zero_le (Int.le_trans h0 h1)
  unfold cutL
  rw [HT.sIx_nat, HT.sIx_nat]
  have e : ((m : Int) - (n : Int)).toNat = m - n := by omega
  rw [Int.toNat_natCast, e]
  rcases Nat.lt_or_ge xs.length n with h | h
  · rw [List.drop_eq_nil_of_le (by omega), List.drop_eq_nil_of_le (by omega), List.take_nil, List.take_nil]
  · rw [Nat.min_eq_left h]
    rcases Nat.lt_or_ge xs.length m with h2 | h2
    · rw [Nat.min_eq_right (by omega), List.take_of_length_le (by rw [List.length_drop]; exact Nat.le_refl _), List.take_of_length_le (by rw [List.length_drop]; omega)]
    · rw [Nat.min_eq_left h2]
theorem ints_at {n k : Nat} {a : Int} (h : ((List.range n).map fun (m : Nat) => (m : Int))[k]? = some a) : a = (k : Int) ∧ k < n := by
  obtain ⟨hk, e⟩ := List.getElem?_eq_some_iff.mp h
  rw [List.length_map, List.length_range] at hk
  simp at e
  exact ⟨e.symm, hk⟩
theorem ints_len (n : Nat) : ((List.range n).map fun (m : Nat) => (m : Int)).length = n := by simp
theorem runI_succ (rows : List (List Int)) (k : Nat) : runI rows (k + 1) = stepI (runI rows k) (k : Int) := by
  unfold runI
  rw [List.range_succ, List.map_append, List.foldl_append]
  rfl
theorem stepI_len (s : Two) (p : Int) : (stepI s p).2.length ≤ s.2.length + 1 := by
  unfold stepI stepAt
  split
  · simp
  · omega
theorem runI_len (rows : List (List Int)) : ∀ k, (runI rows k).2.length ≤ k
  | 0 => Nat.le_refl _
  | k + 1 => by
    rw [runI_succ]
    have := stepI_len (runI rows k) (k : Int)
    have := runI_len rows k
    omega
theorem first_in {rows : List (List Int)} {place : Int} (h : 0 ≤ m_first_at rows place) : inR rows (m_first_at rows place) := by
  refine ⟨h, ?_⟩
  unfold m_first_at at h ⊢
  cases e : firstN rows place with
  | none => rw [e] at h; exact absurd h (by decide)
  | some i =>
    unfold firstN at e
    rw [List.findIdx?_eq_some_iff_getElem] at e
    exact e.1
theorem head_lt {row : List Int} (c : A_head_of row) : (m_head_of row).toNat < row.length := by
  obtain ⟨x, hx, h⟩ := c
  have := List.findIdx_lt_length_of_exists (p := fun x : Int => decide (x ≠ 0)) ⟨x, hx, by simpa using h⟩
  unfold m_head_of
  omega
theorem head_nn (row : List Int) : 0 ≤ m_head_of row := by
  unfold m_head_of
  omega
theorem kerFound_succ (solved : List (List Rat)) (wide k : Nat) : kerFound solved wide (k + 1) = if (k : Int) ∈ headsQ solved then kerFound solved wide k else kerFound solved wide k ++ [kerRow solved wide k] := by
  unfold kerFound
  rw [List.range_succ, List.map_append, List.filter_append, List.map_append]
  by_cases h : (k : Int) ∈ headsQ solved
  · rw [if_pos h]
    simp [h]
  · rw [if_neg h]
    simp [h]
theorem kerFound_len (solved : List (List Rat)) (wide : Nat) : ∀ k, (kerFound solved wide k).length ≤ k
  | 0 => Nat.le_refl _
  | k + 1 => by
    have := kerFound_len solved wide k
    rw [kerFound_succ]
    split
    · omega
    · rw [List.length_append]
      simp only [List.length_cons, List.length_nil]
      omega
theorem putRow_len (free : Int) (row : List Rat) (p : Int × List Rat) : (putRow free row p).length = row.length := by
  unfold putRow
  rw [List.length_set]
theorem putRows_len (free : Int) : ∀ (ps : List (Int × List Rat)) (row : List Rat), (ps.foldl (putRow free) row).length = row.length
  | [], _ => rfl
  | p :: ps, row => by
    rw [List.foldl_cons, putRows_len free ps, putRow_len]
theorem unitRow_len (wide : Nat) (free : Int) : (unitRow wide free).length = wide := by simp [unitRow]
theorem ixN_pos {n : Nat} {i : Int} (h0 : 0 ≤ i) (h : i.toNat < n) : ixN n i = some i.toNat := by
  unfold ixN
  rw [if_pos h0, if_pos (by omega)]
section
variable {P : Program} {w : World} {K : PySem.W.Frag} {mg : Str → Option Value} {base : Heap}
abbrev s_int_steps : Stmt := (topS 36)
abbrev N_int_steps : List Str := ["rows", "left", "found", "place", "at", "head", "others", "row"]
theorem sc_int_steps : FnScope N_int_steps ["rows"] (defScope s_int_steps) := ⟨rfl, rfl, rfl, by decide +kernel, rfl, by decide +kernel, by decide +kernel⟩
abbrev T_int_steps (P : Program) (w : World) (K : PySem.W.Frag) (mg : Str → Option Value) (base : Heap) : Prop := Ok P w K mg base "int_steps" 44 ["rows"] (sp1 (rL (rL rI)) A_int_steps (rL (rL rI)) m_int_steps)
theorem ok_int_steps (T : Tx P K mg base) (d : Df K mg "int_steps" s_int_steps) (O_first_at : T_first_at P w K mg base) (O_headed_row : T_headed_row P w K mg base) (O_cleared : T_cleared P w K mg base) : T_int_steps P w K mg base := by
  refine mkOk d sc_int_steps (fun _ _ _ _ _ _ us hl => match us, hl with | [_], _ => rfl) len1 fun f cdv A outer s H E hr => ?_
  have nd := sc_int_steps.nd
  refine ⟨_, (pss_cons (ps_par (i := 1) (j := 2) rfl nd rfl rfl (by decide) rfl rfl (pa_cons (pv 0) (pa_cons (pe_lst pa_nil) pa_nil)) (by rfl))
      (pss_cons (ps_for PassesOwn.never rfl (pi_range1 (by rfl) T.range (pa_cons (pe_ifExp (pt_cmpR op_gt (pe_callB (call_lenK (K := K) rfl) (by rfl) T.len bt_len (pa_cons (pv 0) pa_nil)) pe_int (nomark _)) (pe_callB (call_lenK (K := K) rfl) (by rfl) T.len bt_len (pa_cons (pe_ix (ix_listK (K := K) rfl) (pv 0) pe_int (fun _ _ => rfl)) pa_nil)) pe_int) pa_nil)) (pg_name (i := 3) nd rfl (Or.inr rfl)) (pss_cons (ps_set (i := 4) nd rfl (Or.inl rfl) (pe_callO O_first_at (hr.mono (by decide)) (by rfl) (pa_cons (pv 1) (pa_cons (pv 3) pa_nil))))
      (pss_one (ps_if (pt_cmpR op_ge (pv 4) pe_int (nomark _)) (pss_cons (ps_set (i := 5) nd rfl (Or.inr rfl) (pe_callO O_headed_row (hr.mono (by decide)) (by rfl) (pa_cons (pe_ix (ix_listK (K := K) rfl) (pv 1) (pv 4) (fun _ _ => rfl)) (pa_cons (pv 3) pa_nil))))
      (pss_cons (ps_set (i := 6) nd rfl (Or.inl rfl) (pe_op op_cat (pe_slice (sl_listK (K := K) rfl) (pv 1) po_none (po_some (pv 4))) (pe_slice (sl_listK (K := K) rfl) (pv 1) (po_some (pe_op op_add (pv 4) pe_int)) po_none)))
      (pss_cons (ps_set (i := 2) nd rfl (Or.inl rfl) (pe_op op_cat (pe_lc (own := [("row", 7)]) (g := gName 7) (tt := tYes) rfl nd (pi_listK (K := K) rfl (pv 2)) (blkOk_by (by kernel_rfl)) (fun _ _ _ _ _ => (pg_name (i := 7) nd rfl (by first | exact Or.inl rfl | exact Or.inr rfl))) (fun _ _ _ _ _ => pts_nil) (fun _ _ _ _ _ => (pe_callO O_cleared (hr.mono (by decide)) (by rfl) (pa_cons (pv 7) (pa_cons (pv 5) (pa_cons (pv 3) pa_nil)))))) (pe_lst (pa_cons (pv 5) pa_nil))))
      (pss_one (ps_setLc (own := [("row", 7)]) (g := gName 7) (tt := tYes) (i := 1) rfl nd rfl rfl (sw_true rfl rfl rfl (by kernel_rfl)) (pi_listK (K := K) rfl (pv 6)) (blkOk_by (by kernel_rfl)) (fun _ _ _ _ _ => (pg_name (i := 7) nd rfl (by first | exact Or.inl rfl | exact Or.inr rfl))) (fun _ _ _ _ _ => pts_nil) (fun _ _ _ _ _ => (pe_callO O_cleared (hr.mono (by decide)) (by rfl) (pa_cons (pv 7) (pa_cons (pv 5) (pa_cons (pv 3) pa_nil)))))))))) pss_nil))))
      (pss_one (ps_ret (pv 2))))), fin1 (n := 7) rfl ?_⟩
  intro rows G H Q c k
  refine sg_len (n := 0) rfl fun z => sg_lens (n := 0) rfl fun zs => ?_
  have hw : wideI rows < big := by
    cases rows with
    | nil => exact (by decide : 0 < big)
    | cons r rs => exact zs r (List.mem_cons_self ..)
  refine sg_seq (sg_par up_true (eg_var 0 rfl) (en_nil (rL rI)).eg (nx_go ?_))
  refine sg_seq (sg_forJ up_true (ig_range (n := (wideI rows : Int)) ((eg_if (b := decide (0 < rows.length)) (x1 := ((atL rows 0).length : Int)) (x2 := 0) ((tg_val (eg_gt (eg_len (eg_var 0 rfl)) eg_int)).cast (by simp)) (fun h => eg_len (eg_ix (eg_var 0 rfl) eg_int (atL_at (by decide) (by simpa using h)))) (fun h => eg_int)).cast ?_) (by omega) (by unfold big at hw; omega))
    (fun n => [.im (rL (rL rI)) rows, .im (rL (rL rI)) (runI rows n).1, .im (rL (rL rI)) (runI rows n).2, .no, .no, .no, .no, .no]) (fun n => True)
    ⟨.inr rfl, .inr rfl, .inr rfl, .inl rfl, .inl rfl, .inl rfl, .inl rfl, .inl rfl, trivial⟩ trivial (fun n a P' hu _ ha => ⟨_, gl_name, ?_⟩) fun _ => ?_)
  · cases rows with
    | nil => rfl
    | cons r rs => simp [atL, wideI]
  · obtain ⟨rfl, hn⟩ := ints_at ha
    have hn' : n < wideI rows := by omega
    obtain ⟨c1, c2⟩ := c n hn'
    have ln := runI_len rows n
    have e0 := runI_succ rows n
    refine sg_len (n := 1) rfl fun z1 => ?_
    refine sg_seq (sg_asg hu (eg_call2 (eg_var 1 rfl) (eg_var 3 rfl) c1) (nx_go ?_))
    refine sg_if (b := decide (0 ≤ m_first_at (runI rows n).1 (n : Int))) hu (tg_val (eg_ge (eg_var 4 rfl) eg_int)) (fun h => ?_) (fun h => ?_)
    · have h' := of_decide_eq_true h
      have hi := first_in h'
      have hmem : atL (runI rows n).1 (m_first_at (runI rows n).1 (n : Int)) ∈ (runI rows n).1 := by
        unfold atL
        rw [List.getElem?_eq_getElem hi.2]
        exact List.getElem_mem hi.2
      unfold stepI at e0
      rw [if_pos h'] at e0
      have c3 := c2 h'
      refine sg_seq (sg_asg hu (eg_call2 (eg_ix (eg_var 1 rfl) (eg_var 4 rfl) (atL_at hi.1 hi.2)) (eg_var 3 rfl) (c1 _ hmem)) (nx_go ?_))
      have hi2 := hi.2
      refine sg_seq (sg_asg hu ((en_cat (en_slice (eg_var 1 rfl) po_no (po_so (eg_var 4 rfl))).eg (en_slice (eg_var 1 rfl) (po_so (eg_add (eg_var 4 rfl) eg_int)) po_no).eg ?_).eg.cast (x' := othersI (runI rows n).1 (m_first_at (runI rows n).1 (n : Int))) ?_) (nx_go ?_))
      · rw [cut_take _ hi.1 (by omega), cut_drop _ (by omega) (by omega), List.length_take, List.length_drop]
        omega
      · rw [cut_take _ hi.1 (by omega), cut_drop _ (by omega) (by omega)]
        unfold othersI
        rw [show (m_first_at (runI rows n).1 (n : Int) + 1).toNat = (m_first_at (runI rows n).1 (n : Int)).toNat + 1 by omega]
      · refine sg_seq (sg_asg hu (en_cat (en_lc (f := fun r => m_cleared r (headI (runI rows n) n) n) (ig_list (eg_var 2 rfl)) (by decide) (fun m b hb => ⟨_, gt_name (by decide), eg_call3 (eg_var 7 rfl) (eg_var 5 rfl) (eg_var 3 rfl) (c3 b (List.mem_append_right _ (mem_of_at hb)))⟩)).eg (en_lst (er_cons (eg_var 5 rfl) er_nil) (show 1 < big by decide)).eg ?_).eg (nx_go ?_))
        · rw [List.length_map]
          show (runI rows n).2.length + 1 < big
          omega
        · refine sg_asg hu (en_lc (f := fun r => m_cleared r (headI (runI rows n) n) n) (ig_list (eg_var 6 rfl)) (by decide) (fun m b hb => ⟨_, gt_name (by decide), eg_call3 (eg_var 7 rfl) (eg_var 5 rfl) (eg_var 3 rfl) (c3 b (List.mem_append_left _ (mem_of_at hb)))⟩)).eg (nx_ofJ rfl ⟨.inr rfl, .inr ?_, .inr ?_, .inl rfl, .inl rfl, .inl rfl, .inl rfl, .inl rfl, trivial⟩ trivial)
          · rw [e0]
            rfl
          · rw [e0]
            rfl
    · have h' := of_decide_eq_false h
      unfold stepI at e0
      rw [if_neg h'] at e0
      exact sg_next (nx_ofJ rfl ⟨.inr rfl, .inr (by rw [e0]), .inr (by rw [e0]), .inl rfl, .inl rfl, .inl rfl, .inl rfl, .inl rfl, trivial⟩ trivial)
  · rw [ints_len, Int.toNat_natCast]
    exact sg_out (eg_var 2 rfl) k rfl
abbrev s_steps_of : Stmt := (topS 39)
abbrev N_steps_of : List Str := ["rows"]
theorem sc_steps_of : FnScope N_steps_of ["rows"] (defScope s_steps_of) := ⟨rfl, rfl, rfl, by decide +kernel, rfl, by decide +kernel, by decide +kernel⟩
abbrev T_steps_of (P : Program) (w : World) (K : PySem.W.Frag) (mg : Str → Option Value) (base : Heap) : Prop := Ok P w K mg base "steps_of" 45 ["rows"] (sp1 (rL (rL rQ)) A_steps_of (rL (rL rQ)) m_steps_of)
theorem ok_steps_of (T : Tx P K mg base) (d : Df K mg "steps_of" s_steps_of) (O_told_rows : T_told_rows P w K mg base) (O_int_steps : T_int_steps P w K mg base) (O_ints_of : T_ints_of P w K mg base) : T_steps_of P w K mg base := by
  refine mkOk d sc_steps_of (fun _ _ _ _ _ _ us hl => match us, hl with | [_], _ => rfl) len1 fun f cdv A outer s H E hr => ?_
  have nd := sc_steps_of.nd
  refine ⟨_, (pss_one (ps_ret (pe_callO O_told_rows (hr.mono (by decide)) (by rfl) (pa_cons (pe_callO O_int_steps (hr.mono (by decide)) (by rfl) (pa_cons (pe_callO O_ints_of (hr.mono (by decide)) (by rfl) (pa_cons (pv 0) pa_nil)) pa_nil)) pa_nil)))), fin1 (n := 0) rfl ?_⟩
  intro rows G H Q c k
  exact sg_out (eg_call1 (eg_call1 (eg_call1 (eg_var 0 rfl) c.1) c.2.1) c.2.2) k rfl
abbrev s_kernel_of : Stmt := (topS 40)
abbrev N_kernel_of : List Str := ["rows", "wide", "solved", "heads", "found", "free", "row", "head", "step", "at", "number"]
theorem sc_kernel_of : FnScope N_kernel_of ["rows", "wide"] (defScope s_kernel_of) := ⟨rfl, rfl, rfl, by decide +kernel, rfl, by decide +kernel, by decide +kernel⟩
abbrev T_kernel_of (P : Program) (w : World) (K : PySem.W.Frag) (mg : Str → Option Value) (base : Heap) : Prop := Ok P w K mg base "kernel_of" 46 ["rows", "wide"] (sp2 (rL (rL rQ)) rI A_kernel_of (rL (rL rQ)) m_kernel_of)
theorem ok_kernel_of (T : Tx P K mg base) (d : Df K mg "kernel_of" s_kernel_of) (MQ : MkQ P w K mg base 42) (M_neg : T_neg P w K mg base) (P_top : T_top P w K mg base) (O_steps_of : T_steps_of P w K mg base) (O_head_of : T_head_of P w K mg base) : T_kernel_of P w K mg base := by
  refine mkOk d sc_kernel_of (fun _ _ _ _ _ _ us hl => match us, hl with | [_, _], _ => rfl) len2 fun f cdv A outer s H E hr => ?_
  have nd := sc_kernel_of.nd
  refine ⟨_, (pss_cons (ps_set (i := 2) nd rfl (Or.inl rfl) (pe_callO O_steps_of (hr.mono (by decide)) (by rfl) (pa_cons (pv 0) pa_nil)))
      (pss_cons (ps_par (i := 3) (j := 4) rfl nd rfl rfl (by decide) rfl rfl (pa_cons (pe_lc (own := [("row", 6)]) (g := gName 6) (tt := tYes) rfl nd (pi_listK (K := K) rfl (pv 2)) (blkOk_by (by kernel_rfl)) (fun _ _ _ _ _ => (pg_name (i := 6) nd rfl (by first | exact Or.inl rfl | exact Or.inr rfl))) (fun _ _ _ _ _ => pts_nil) (fun _ _ _ _ _ => (pe_callO O_head_of (hr.mono (by decide)) (by rfl) (pa_cons (pe_lc (own := [("number", 10)]) (g := gName 10) (tt := tYes) rfl nd (pi_listK (K := K) rfl (pv 6)) (blkOk_by (by kernel_rfl)) (fun _ _ _ _ _ => (pg_name (i := 10) nd rfl (by first | exact Or.inl rfl | exact Or.inr rfl))) (fun _ _ _ _ _ => pts_nil) (fun _ _ _ _ _ => (pe_propO P_top T.clQ (hr.mono (by decide)) (pv 10) rfl))) pa_nil)))) (pa_cons (pe_lst pa_nil) pa_nil)) (by rfl))
      (pss_cons (ps_for PassesOwn.never rfl (pi_range1 (by rfl) T.range (pa_cons (pv 1) pa_nil)) (pg_name (i := 5) nd rfl (Or.inr rfl)) (pss_one (ps_if (pt_cmpR (notInK (K := K) rfl) (pv 5) (pv 3) (by rfl)) (pss_cons (ps_setLc (own := [("at", 9)]) (g := gName 9) (tt := tYes) (i := 6) rfl nd rfl rfl (sw_true rfl rfl rfl (by kernel_rfl)) (pi_range1 (by rfl) T.range (pa_cons (pv 1) pa_nil)) (blkOk_by (by kernel_rfl)) (fun _ _ _ _ _ => (pg_name (i := 9) nd rfl (by first | exact Or.inl rfl | exact Or.inr rfl))) (fun _ _ _ _ _ => pts_nil) (fun _ _ _ _ _ => (pe_mkQ1 MQ T.g_Ratio (hr.mono (by decide)) (by rfl) (pa_cons (pe_callTy call_int1 (by rfl) T.int bt_int (pa_cons (pe_cmpR op_eq (pv 9) (pv 5) (nomark _)) pa_nil)) pa_nil))))
      (pss_cons (ps_for PassesOwn.never rfl (pi_zipK (K := K) rfl (by rfl) T.zip (pa_cons (pv 3) (pa_cons (pv 2) pa_nil))) (pg_tupK (K := K) (n := 2) rfl rfl (pgs_cons (pg_name (i := 7) nd rfl (Or.inl rfl)) (pgs_cons (pg_name (i := 8) nd rfl (Or.inl rfl)) pgs_nil))) (pss_one (ps_asg (pe_un (un_ownO M_neg (hr.mono (by decide))) (pe_ix (ix_listK (K := K) rfl) (pv 8) (pv 5) (fun _ _ => rfl))) (pg_sub (pv 6) (pv 7) set_list))))
      (pss_one (ps_expr (pe_bm PySem.F.plainAttrs_list PySem.F.slot_list_append PySem.F.type_list_append mt_append (pv 4) (pa_cons (pv 6) pa_nil)))))) pss_nil)))
      (pss_one (ps_ret (pe_callO O_steps_of (hr.mono (by decide)) (by rfl) (pa_cons (pv 4) pa_nil))))))), fin2 (n := 9) rfl ?_⟩
  intro rows wide G H Q c k
  obtain ⟨w0, w1, cs, cr, cf⟩ := c
  refine sg_seq (sg_asg up_true (eg_call1 (eg_var 0 rfl) cs) (nx_go ?_))
  refine sg_seq (sg_parO up_true (by simp [nos, st]) (en_lc (f := fun r => m_head_of (nums r)) (ig_list (eg_var 2 rfl)) (by decide) (fun n a ha => ⟨_, gt_name (by decide), eg_call1 (en_lc (f := fun q : Rat => q.num) (ig_list (eg_var 6 rfl)) (by decide) (fun m b hb => ⟨_, gt_name (by decide), eg_prop (eg_var 10 rfl) trivial⟩)).eg (cr a (mem_of_at ha)).1⟩)).eg (en_nil (rL rQ)) (nx_go ?_))
  refine sg_seq (sg_for up_true (ig_range (eg_var 1 rfl) w0 w1) (fun n => [.im (rL (rL rQ)) rows, .im rI wide, .im (rL (rL rQ)) (m_steps_of rows), .im (rL rI) (headsQ (m_steps_of rows)), .own (rL rQ) (kerFound (m_steps_of rows) wide.toNat n), .no, .no, .no, .no, .no, .no])
    ⟨.inr rfl, .inr rfl, .inr rfl, .inr rfl, .inr rfl, .inl rfl, .inl rfl, .inl rfl, .inl rfl, .inl rfl, .inl rfl, trivial⟩ (fun n a P' hu ha => ⟨_, gl_name, ?_⟩) ?_)
  · obtain ⟨rfl, hn⟩ := ints_at ha
    have e := kerFound_succ (m_steps_of rows) wide.toNat n
    have ln := kerFound_len (m_steps_of rows) wide.toNat n
    refine sg_if (b := !decide ((n : Int) ∈ headsQ (m_steps_of rows))) hu (tg_val (eg_notIn (eg_var 5 rfl) (eg_var 3 rfl))) (fun h => ?_) (fun h => ?_)
    · have h' : ¬ (n : Int) ∈ headsQ (m_steps_of rows) := by simpa using h
      rw [if_neg h'] at e
      refine sg_seq (sg_own hu (by simp [st]) (en_lc (f := fun i : Int => if i = (n : Int) then (1 : Rat) else 0) (ig_range (eg_var 1 rfl) w0 w1) (by decide) (fun m b hb => ⟨_, gt_name (by decide), (eg_mkQ1 (eg_intB (eg_eq (eg_var 9 rfl) (eg_var 5 rfl)))).cast ?_⟩)) (nx_go ?_))
      · rw [rat_int]
        by_cases hb : b = (n : Int)
        · simp [hb]
        · simp [hb]
      · refine sg_seq (sg_for hu (ig_zip (eg_var 3 rfl) (eg_var 2 rfl)) (fun m => [.im (rL (rL rQ)) rows, .im rI wide, .im (rL (rL rQ)) (m_steps_of rows), .im (rL rI) (headsQ (m_steps_of rows)), .own (rL rQ) (kerFound (m_steps_of rows) wide.toNat n), .im rI (n : Int), .own rQ ((((headsQ (m_steps_of rows)).zip (m_steps_of rows)).take m).foldl (putRow (n : Int)) (unitRow wide.toNat (n : Int))), .no, .no, .no, .no])
          ⟨.inr rfl, .inr rfl, .inr rfl, .inr rfl, .inr rfl, .inr rfl, .inr rfl, .inl rfl, .inl rfl, .inl rfl, .inl rfl, trivial⟩ (fun m b P2 hu2 hb => ⟨_, gl_pair, ?_⟩) ?_)
        · have hz := List.of_mem_zip (mem_of_at hb)
          have cb := cr b.2 hz.2
          have hh : b.1.toNat < wide.toNat := by
            obtain ⟨r, hr, er⟩ := List.mem_map.mp hz.1
            have cr' := cr r hr
            have := head_lt cr'.1
            rw [← er]
            unfold nums at this ⊢
            rw [List.length_map, cr'.2] at this
            exact this
          have h0 : 0 ≤ b.1 := by
            obtain ⟨r, hr, er⟩ := List.mem_map.mp hz.1
            rw [← er]
            exact head_nn _
          refine sg_set hu2 rfl (eg_own1 (eg_ix (eg_var 8 rfl) (eg_var 5 rfl) (atQ_at (by omega) (by rw [cb.2]; omega))) trivial) (eg_var 7 rfl) (j := b.1.toNat) ?_ (nx_of rfl ⟨.inr rfl, .inr rfl, .inr rfl, .inr rfl, .inr rfl, .inr rfl, .inr ?_, .inl rfl, .inl rfl, .inl rfl, .inl rfl, trivial⟩)
          · rw [putRows_len, unitRow_len]
            exact ixN_pos h0 hh
          · rw [take_succ' hb, List.foldl_append]
            rfl
        · rw [List.take_length]
          refine sg_freeze (n := 6) hu rfl (sg_append (n := 4) hu rfl (eg_var 6 rfl) (by unfold big; omega) (nx_of rfl ⟨.inr rfl, .inr rfl, .inr rfl, .inr rfl, .inr ?_, .inl rfl, .inl rfl, .inl rfl, .inl rfl, .inl rfl, .inl rfl, trivial⟩))
          rw [e]
          rfl
    · have h' : (n : Int) ∈ headsQ (m_steps_of rows) := by simpa using h
      rw [if_pos h'] at e
      exact sg_next (nx_of rfl ⟨.inr rfl, .inr rfl, .inr rfl, .inr rfl, .inr (by rw [e]), .inl rfl, .inl rfl, .inl rfl, .inl rfl, .inl rfl, .inl rfl, trivial⟩)
  · rw [ints_len]
    exact sg_freeze (n := 4) up_true rfl (sg_out (eg_call1 (eg_var 4 rfl) cf) k rfl)
end
end TW
set_option Elab.async false
set_option linter.all false
set_option maxRecDepth 100000
set_option maxHeartbeats 4000000
/-! any() of ints; a list is not []; a call that reads an own list. -/
namespace TW
open PySem PySem.Spec PyProof.Rows L2
theorem getD_of {α : Type} {l : List α} {i : Nat} {d : α} (h : i < l.length) : l.getD i d = l[i] := by
  rw [List.getD_eq_getElem?_getD, List.getElem?_eq_getElem h]
  rfl
theorem truth_of_ints {prog : Program} {w : World} {A : Around} {ns : List Int} {us : List Value} (r : Vals (ns.map V.int) us) :
    TruthOf prog w A (fun i v => us.toArray[i]? = some v) (fun i => decide (ns.getD i 0 ≠ 0)) := fun i v s Q E hv hq => by
  have hv' : us[i]? = some v := by simpa using hv
  have hi : i < us.length := (List.getElem?_eq_some_iff.mp hv').1
  have hl := r.length
  rw [List.length_map] at hl
  have hn : i < ns.length := by omega
  obtain ⟨u, hu, ru⟩ := r.get (i := i) (x := .int ns[i]) (by rw [List.getElem?_map, List.getElem?_eq_getElem hn]; rfl)
  rw [hv'] at hu
  cases hu
  obtain ⟨t, rfl⟩ := ru
  refine truthy_int ?_
  have e : (ns[i] != 0) = decide (ns.getD i 0 ≠ 0) := by
    rw [getD_of hn]
    by_cases h : ns[i] = 0 <;> simp [h]
  rw [e]
  exact hq
theorem range_any_ints : ∀ ns : List Int, (List.range ns.length).any (fun i => decide (ns.getD i 0 ≠ 0)) = ns.any (fun x => decide (x ≠ 0))
  | [] => rfl
  | n :: ns => by
    have ih := range_any_ints ns
    rw [List.length_cons, List.range_succ_eq_map, List.any_cons, List.any_map, List.any_cons, ← ih]
    rfl
def rAnyI (K : PySem.W.Frag) : List V → Hp → VK → Prop := fun vs H Q => ∃ (a : Addr) (ns : List Int), vs = [V.ref a] ∧ SqL K H a (ns.map V.int) ∧ Q (.bl (ns.any fun x => decide (x ≠ 0))) H
theorem cr_anyI {X : Cx} {K : PySem.W.Frag} (hK : X.K = K) (hc : X.calm = true) : CallR X (.builtin "any") (rAnyI K) := by
  subst hK
  intro pins s σ H vs us Q I r h
  obtain ⟨a, ns, rfl, hs, q⟩ := h
  obtain ⟨vals, rv, pl, _⟩ := I.list hs
  rw [Vals.ref1 r]
  refine call_any_walk (iter_any pl.isList fun sx ex stx far => ?_)
  subst ex
  refine ⟨_, _, _, _, _, _, _, rfl, Walks.list (A := X.A.in1) (I.ok.hd hc) _ a far vals.toArray, stx, truth_of_ints rv, fun hh tk kp => ⟨.bl _, H, I.kept fun b o eo => kp b o (fun hm => ?_) (Heap.get?_push_of_some _ eo), ?_, q⟩⟩
  · simp only [List.mem_singleton] at hm
    rw [hm] at eo
    exact absurd (Heap.lt_size eo) (Nat.lt_irrefl _)
  · show Value.bool _ = Value.bool _
    have hl := rv.length
    rw [List.length_map] at hl
    rw [← range_any_ints, hl, List.size_toArray]
theorem eg_anyI {Γ : List Sl} {ta : TE} {K : PySem.W.Frag} {xs : List Int} (ha : EG Γ ta (rL rI) xs) : EG Γ (tCB (rAnyI K) (tCons ta tNil)) rB (xs.any fun x => decide (x ≠ 0)) := fun H0 σ G H Q h0 s t k =>
  ha H0 σ G H _ h0 s t fun v G1 H1 p r => by
    obtain ⟨a, vs, rfl, hg, al, z⟩ := r
    rw [all2_int al] at hg
    exact ⟨a, xs, rfl, sq_of (p.s _ _ hg), k _ G1 H1 p rfl⟩
/-- xs != [] -/
def rNeE : R2 := fun x y H Q => ∃ a b xs, x = .ref a ∧ y = .ref b ∧ H a = some (.lst xs) ∧ H b = some (.lst []) ∧ Q (.bl (!xs.isEmpty)) H
theorem op_neE {X : Cx} (hu : X.A.units < cLine) : OpR X (compareOp .NotEq) rNeE := by
  intro pins s σ H x y v u Q I rx ry h
  obtain ⟨a, b, xs, rfl, rfl, ha, hb, q⟩ := h
  cases rx
  cases ry
  obtain ⟨ls, rl, pl, _⟩ := I.list (sq_of (K := X.K) ha)
  obtain ⟨ms, rm, pm, _⟩ := I.list (sq_of (K := X.K) hb)
  cases rm
  show wpAny (model X.prog X.w) X.A (richCompare .NotEq (.ref a) (.ref b)) (EP X pins σ Q) X.xe s
  cases rl with
  | nil =>
    refine SeqAt.RcNeAt.lists (e := fun _ => true) pl.isList pm.isList rfl hu (fun j h1 => absurd h1 (Nat.not_lt_zero _)) X.prog X.w X.xe _ ⟨.bl false, H, I, rfl, q⟩
  | cons r t =>
    refine SeqAt.RcNeAt.lists_lengths pl.isList pm.isList ?_ hu X.prog X.w X.xe _ ⟨.bl true, H, I, rfl, q⟩
    simp
theorem eg_neE {Γ : List Sl} {ta : TE} {α : Type} {R : RT α} {xs : List α} (ha : EG Γ ta (rL R) xs) : EG Γ (tOp rNeE ta (tLst tNil)) rB (!xs.isEmpty) := fun H0 σ G H Q h0 s t k =>
  ha H0 σ G H _ h0 s t fun v G1 H1 p r => by
    obtain ⟨a, vs, rfl, hg, al, z⟩ := r
    refine ⟨by decide, fun b hb => ⟨a, b, vs, rfl, rfl, ?_, upd_same, ?_⟩⟩
    · rw [upd_ne (ne_of_none (p.s _ _ hg) hb)]
      exact p.s _ _ hg
    · have e : vs.isEmpty = xs.isEmpty := by cases al <;> rfl
      rw [e]
      exact k _ G1 _ (p.trans (Step.newO p.s hb)) rfl
/-- f(own, e): the callee reads a list that will change later; it hands back ints -/
theorem eg_callO2 {Γ : List Sl} {tb : TE} {β : Type} {S : RT β} {y : β} {n : Nat} {xs : List (List Int)} {A : List (List Int) → β → Prop} {f : List (List Int) → β → List Int} {E : XK} (h : gt Γ n = .own (rL rI) xs) (hx : xs ≠ []) (hb : EG Γ tb S y) (c : A xs y) :
    EG Γ (tCall (sp2 (rL (rL rI)) S A (rL rI) f) [] E (tCons (tVar n) (tCons tb tNil))) (rL rI) (f xs y) := fun H0 σ G H Q h0 s t k => by
  have w := t.at_ n
  rw [h] at w
  obtain ⟨l, vs, e, hl0, hg, hh, al, z⟩ := w
  refine ⟨.ref l, e, hb H0 σ G H _ h0 s t fun v G1 H1 p r => ?_⟩
  have g1 : G1 l = none := p.f l (by rw [hh]; exact fun z => nomatch z) hg
  have h1 : H1 l = some (.lst vs) := p.h _ _ hh
  have up : Same G1 (upd G1 l (.lst vs)) := same_new g1
  have sm : Same (upd G1 l (.lst vs)) H1 := fun b o eb => by
    by_cases hbl : b = l
    · subst hbl
      rw [upd_same] at eb
      rw [h1]
      exact eb
    · rw [upd_ne hbl] at eb
      exact p.s _ _ eb
  refine ⟨.ref l, v, xs, y, upd G1 l (.lst vs), rfl, sm, ⟨l, vs, rfl, upd_same, al.mono fun _ _ q => (rL rI).mono (p.g.trans up) q, z⟩, S.mono up r, c, fun u G2 H2 p2 r2 => ?_⟩
  obtain ⟨a, ws, rfl, ga, ra, za⟩ := r2
  have gl : G2 l = some (.lst vs) := p2.g _ _ upd_same
  have na : a ≠ l := fun e2 => by
    subst e2
    rw [gl] at ga
    cases ga
    clear k za
    generalize f xs y = zs at ra
    cases al with
    | nil => exact hx rfl
    | cons q1 q2 =>
      obtain ⟨a', _, e3, _⟩ := q1
      cases ra with
      | cons q3 q4 =>
        rw [e3] at q3
        cases q3
  refine k _ (fun b => if b = l then none else G2 b) H2 (p.trans ⟨fun b o eb => ?_, fun b o eb => ?_, p2.h, fun b hb1 hb2 => ?_⟩) ⟨a, ws, rfl, (if_neg na).trans ga, ra, za⟩
  · have nb : b ≠ l := fun z => by rw [z, g1] at eb; cases eb
    exact (if_neg nb).trans (p2.g _ _ (up _ _ eb))
  · by_cases hbl : b = l
    · rw [if_pos hbl] at eb; cases eb
    · rw [if_neg hbl] at eb
      exact p2.s _ _ eb
  · by_cases hbl : b = l
    · exact if_pos hbl
    · refine (if_neg hbl).trans (p2.f b hb1 ?_)
      rw [upd_ne hbl]
      exact hb2
theorem _root_.L2.Room.lines {k : Nat} {A : Around} (r : Room k A) : A.units < cLine := by have := r.un; omega
end TW
set_option Elab.async false
set_option linter.all false
set_option maxRecDepth 100000
/-! What the defs of tables, houses, lots, leads, rooms, cuts, partners, sums compute, in plain Lean. -/
namespace TW
open PySem PySem.Spec PyProof.Rows L2
abbrev NTab := List (List NumV)
def upto (n : Nat) : List Int := (List.range n).map fun (m : Nat) => (m : Int)
def ratT (t : NTab) : Tab := t.map fun r => r.map m_ratio_of
/-! tables -/
def m_table_in (v : NTab) : Option Tab := some (ratT v)
def A_table_in (v : NTab) : Prop := 1 ≤ v.length ∧ v.length ≤ 4 ∧ ∀ r ∈ v, r.length = v.length
def chop {α : Type} (r : List α) (size : Nat) (n : Nat) : List (List α) := (upto n).map fun a => cutL r (some (a * (size : Int))) (some ((a + 1) * (size : Int)))
def m_bare_table (t : Tab) : Int × List (List Int) := if t.length = 0 then (1, []) else ((m_wholes t.flatten).1, chop (m_wholes t.flatten).2 (wideQ t) t.length)
def A_bare_table (t : Tab) : Prop := A_wholes t.flatten ∧ t.flatten.length < 1000 ∧ t.length < 1000 ∧ wideQ t < 1000
def dotI (row : List Int) (others : List (List Int)) (to : Int) : Int := ((row.zip others).map fun p => p.1 * at0 p.2 to).sum
def m_int_product (rows others : List (List Int)) : List (List Int) := rows.map fun row => (upto (wideI others)).map fun to => dotI row others to
def A_int_product (rows others : List (List Int)) : Prop := (∀ r ∈ rows, ∀ x ∈ r, Sm x) ∧ ∀ l ∈ others, l.length = wideI others ∧ ∀ x ∈ l, Sm x
def m_over_bottom (rows : List (List Int)) (bottom : Int) : Tab := rows.map fun r => r.map fun n => Rat.divInt n bottom
abbrev A_over_bottom (rows : List (List Int)) (bottom : Int) : Prop := bottom ≠ 0
def m_idle_of (size : Int) : Tab := (upto size.toNat).map fun a => (upto size.toNat).map fun t => if a = t then 1 else 0
abbrev A_idle_of (size : Int) : Prop := 0 ≤ size ∧ size < 1000
def m_product_of (t o : Tab) : Tab := m_over_bottom (m_int_product (m_bare_table t).2 (m_bare_table o).2) ((m_bare_table t).1 * (m_bare_table o).1)
def A_product_of (t o : Tab) : Prop := A_bare_table t ∧ A_bare_table o ∧ A_int_product (m_bare_table t).2 (m_bare_table o).2 ∧ (m_bare_table t).1 * (m_bare_table o).1 ≠ 0 ∧ Sm (m_bare_table t).1 ∧ Sm (m_bare_table o).1
def m_mixed_of (t o : Tab) (q : Rat) : Tab := (t.zip o).map fun p => (p.1.zip p.2).map fun x => x.1 + q * x.2
def A_mixed_of (t o : Tab) (q : Rat) : Prop := SmQ q ∧ ∀ p ∈ t.zip o, ∀ x ∈ p.1.zip p.2, SmQ x.1 ∧ SmQ x.2 ∧ SmQ (q * x.2)
def m_about_of (t : Tab) : Tab := (upto t.length).map fun p => t.map fun r => atQ r p
def m_led_by (row : List Rat) (t : Tab) : List Rat := atL (m_product_of [row] t) 0
def A_led_by (row : List Rat) (t : Tab) : Prop := A_product_of [row] t
def m_long_of (t : Tab) : List Rat := t.flatten
def A_long_of (t : Tab) : Prop := t.flatten.length < 1000
def m_short_of (row : List Rat) (size : Int) : Tab := chop row size.toNat size.toNat
def A_short_of (row : List Rat) (size : Int) : Prop := 0 ≤ size ∧ size < 1000
/-! houses -/
abbrev NLet := List NTab
def m_letters_in (v : NLet) : Option (List Tab) := some (v.map ratT)
def A_letters_in (v : NLet) : Prop := 1 ≤ v.length ∧ v.length ≤ 3 ∧ (∀ t ∈ v, A_table_in t) ∧ ∀ t ∈ v, t.length = (v.headD []).length
def m_House (v : NLet) : Hou := ⟨v.map ratT, (v.headD []).length⟩
abbrev A_want_house (h : Hou) : Prop := True
abbrev m_want_house (h : Hou) : Hou := h
def asN (ls : List Tab) : NLet := ls.map fun t => t.map fun r => r.map NumV.q
def m_house_of (ls : List Tab) : Hou := m_House (asN ls)
def A_house_of (ls : List Tab) : Prop := A_letters_in (asN ls)
def m_want_pair (h o : Hou) : Hou × Hou := (h, o)
def A_want_pair (h o : Hou) : Prop := h.ls.length = o.ls.length
def m_on_line (t o : Tab) : Tab := (t.map fun r => r ++ List.replicate o.length 0) ++ o.map fun r => List.replicate t.length 0 ++ r
def A_on_line (t o : Tab) : Prop := t.length < 1000 ∧ o.length < 1000 ∧ (∀ r ∈ t, r.length < 1000) ∧ ∀ r ∈ o, r.length < 1000
def sideLs (h o : Hou) : List Tab := (h.ls.zip o.ls).map fun p => m_on_line p.1 p.2
def m_side (h o : Hou) : Hou := m_house_of (sideLs h o)
def A_side (h o : Hou) : Prop := A_want_pair h o ∧ h.n + o.n ≤ 4 ∧ (∀ p ∈ h.ls.zip o.ls, A_on_line p.1 p.2) ∧ A_house_of (sideLs h o)
/-! lots -/
def m_long_ints (t : Tab) : List Int := (m_wholes (m_long_of t)).2
def A_long_ints (t : Tab) : Prop := A_long_of t ∧ A_wholes (m_long_of t)
def m_left_of (steps : List (List Int)) (row : List Int) : List Int := steps.foldl (fun left step => m_cleared left step (m_head_of step)) row
def A_left_of (steps : List (List Int)) (row : List Int) : Prop := ∀ (n : Nat) (s : List Int), steps[n]? = some s → A_head_of s ∧ A_cleared (m_left_of (steps.take n) row) s (m_head_of s)
def m_long_with (ts : List Tab) : List Int := (m_wholes (ts.flatMap m_long_of)).2
def A_long_with (ts : List Tab) : Prop := (∀ t ∈ ts, A_long_of t) ∧ (ts.flatMap m_long_of).length < 1000 ∧ A_wholes (ts.flatMap m_long_of)
abbrev Wd := List Int × List Tab
/-- one letter behind one word: rows, the longer words so far -/
abbrev Bs := List (List Int) × List Wd
def letterAt (h : Hou) (l : Int) : Tab := atL h.ls l
def lateOf (hs : List Hou) (ts : List Tab) (l : Int) : List Tab := (ts.zip hs).map fun p => m_product_of p.1 (letterAt p.2 l)
def putLate (rows : List (List Int)) (row : List Int) (s : Bs) (w : List Int) (l : Int) (late : List Tab) : Bs := if row.any (fun x => decide (x ≠ 0)) then (s.1 ++ [m_bare_row row], s.2 ++ [(w ++ [l], late)]) else s
def stepB (hs : List Hou) (s : Bs) (p : Wd × Int) : Bs := putLate s.1 (m_left_of s.1 (m_long_with (lateOf hs p.1.2 p.2))) s p.1.1 p.2 (lateOf hs p.1.2 p.2)
def manyB (hs : List Hou) : Nat := match hs with
  | [] => 0
  | h :: _ => h.ls.length
def letB (hs : List Hou) (w : Wd) (s : Bs) (ls : List Int) : Bs := ls.foldl (fun s l => stepB hs s (w, l)) s
def wordB (hs : List Hou) (s : Bs) (w : Wd) : Bs := letB hs w s (upto (manyB hs))
def wordsB (hs : List Hou) (s : Bs) (ws : List Wd) : Bs := ws.foldl (wordB hs) s
/-- found, last, rows -/
structure Lot where
  found : List Wd
  last : List Wd
  rows : List (List Int)
def growB (hs : List Hou) (s : Lot) : Lot := ⟨s.found ++ (wordsB hs (s.rows, []) s.last).2, (wordsB hs (s.rows, []) s.last).2, (wordsB hs (s.rows, []) s.last).1⟩
def startB (hs : List Hou) : Lot := ⟨[([], hs.map fun h => m_idle_of (h.n : Int))], [([], hs.map fun h => m_idle_of (h.n : Int))], [m_long_with (hs.map fun h => m_idle_of (h.n : Int))]⟩
def runB (hs : List Hou) : Nat → Lot
  | 0 => startB hs
  | k + 1 => growB hs (runB hs k)
/-- the first turn that finds no new words -/
def endB (hs : List Hou) : Nat → Nat → Nat
  | 0, k => k
  | f + 1, k => if (runB hs k).last.isEmpty then k else endB hs f (k + 1)
def m_base_with (hs : List Hou) : List Wd := (runB hs (endB hs 20 0)).found
def A_stepB (hs : List Hou) (s : Bs) (p : Wd × Int) : Prop := (∀ q ∈ p.1.2.zip hs, inR q.2.ls p.2 ∧ A_product_of q.1 (letterAt q.2 p.2)) ∧ A_long_with (lateOf hs p.1.2 p.2) ∧ A_left_of s.1 (m_long_with (lateOf hs p.1.2 p.2)) ∧ s.1.length < 1000 ∧ s.2.length < 1000 ∧ s.1 ≠ [] ∧ p.1.1.length < 1000
def A_growB (hs : List Hou) (s : Lot) : Prop := s.found.length + (wordsB hs (s.rows, []) s.last).2.length < 1000 ∧ ∀ (n : Nat) (w : Wd), s.last[n]? = some w → ∀ (m : Nat) (l : Int), (upto (manyB hs))[m]? = some l → A_stepB hs (letB hs w (wordsB hs (s.rows, []) (s.last.take n)) ((upto (manyB hs)).take m)) (w, l)
def A_base_with (hs : List Hou) : Prop := hs ≠ [] ∧ (∀ h ∈ hs, A_idle_of (h.n : Int)) ∧ A_long_with (hs.map fun h => m_idle_of (h.n : Int)) ∧ manyB hs < 100 ∧ (∀ k, A_growB hs (runB hs k)) ∧ (runB hs (endB hs 20 0)).last = []
def m_base_of (h : Hou) : List (List Int × Tab) := (m_base_with [h]).map fun p => (p.1, p.2.headD [])
def A_base_of (h : Hou) : Prop := A_base_with [h] ∧ ∀ p ∈ m_base_with [h], p.2 ≠ []
def baseT (h : Hou) : List Tab := (m_base_of h).map fun p => p.2
def m_int_lot (h : Hou) : List (List Int) := m_int_steps ((baseT h).map m_long_ints)
def A_int_lot (h : Hou) : Prop := A_base_of h ∧ (∀ t ∈ baseT h, A_long_ints t) ∧ A_int_steps ((baseT h).map m_long_ints)
def m_dimension (h : Hou) : Int := ((m_base_of h).length : Int)
abbrev A_dimension (h : Hou) : Prop := A_base_of h
def m_every_table (h : Hou) : Bool := decide (((m_base_of h).length : Int) = (h.n : Int) * (h.n : Int))
def A_every_table (h : Hou) : Prop := A_base_of h ∧ h.n < 1000
/-! leads -/
def addAt (row : List Int) (i : Int) (x : Int) : List Int := row.set i.toNat (at0 row i + x)
def leadStep (here there : List Int) (n : Nat) (line place : Int) (row : List Int) (i : Int) : List Int :=
  addAt (addAt row (i * (n : Int) + place) (at0 here (line * (n : Int) + i))) (line * (n : Int) + i) (-(at0 there (i * (n : Int) + place)))
def leadRow (here there : List Int) (n : Nat) (line place : Int) : List Int := (upto n).foldl (leadStep here there n line place) (List.replicate (n * n) 0)
def bothOf (near far : Tab) : List Int := (m_wholes (m_long_of near ++ m_long_of far)).2
def lineRows (near far : Tab) (line : Int) : List (List Int) := (upto near.length).map fun place => leadRow ((bothOf near far).take (near.length * near.length)) ((bothOf near far).drop (near.length * near.length)) near.length line place
def m_lead_rows (near far : Tab) : List (List Int) := (upto near.length).flatMap fun line => lineRows near far line
def sqT (t : Tab) (n : Nat) : Prop := t.length = n ∧ ∀ r ∈ t, r.length = n
def A_lead_rows (near far : Tab) : Prop := near.length ≤ 4 ∧ sqT near near.length ∧ sqT far near.length ∧ A_wholes (m_long_of near ++ m_long_of far)
def leadsRows (h o : Hou) : List (List Int) := (h.ls.zip o.ls).flatMap fun p => m_lead_rows p.1 p.2
def m_leads_of (h o : Hou) : List Tab := (m_kernel_of (m_told_rows (m_int_steps (leadsRows h o))) ((h.n : Int) * (h.n : Int))).map fun r => m_short_of r (h.n : Int)
def A_leads_of (h o : Hou) : Prop := h.n ≤ 4 ∧ h.ls.length < 10 ∧ (∀ p ∈ h.ls.zip o.ls, A_lead_rows p.1 p.2) ∧ A_int_steps (leadsRows h o) ∧ A_told_rows (m_int_steps (leadsRows h o)) ∧ A_kernel_of (m_told_rows (m_int_steps (leadsRows h o))) ((h.n : Int) * (h.n : Int))
def m_commuting_of (h : Hou) : List Tab := m_leads_of h h
abbrev A_commuting_of (h : Hou) : Prop := A_leads_of h h
def m_apart_of (l t : Tab) : List Rat := m_long_of (m_mixed_of (m_product_of l t) (m_product_of t l) (-1))
def A_apart_of (l t : Tab) : Prop := A_product_of l t ∧ A_product_of t l ∧ A_mixed_of (m_product_of l t) (m_product_of t l) (-1) ∧ A_long_of (m_mixed_of (m_product_of l t) (m_product_of t l) (-1))
def mixPut (found : List Rat) (p : Rat × List Rat) : List Rat := if p.1.num.sign ≠ 0 then (found.zip p.2).map fun x => x.1 + p.1 * x.2 else found
def m_mixed_row (ns : List Rat) (rows : List (List Rat)) : List Rat := (ns.zip rows).foldl mixPut (List.replicate (wideQ rows) 0)
def A_mixed_row (ns : List Rat) (rows : List (List Rat)) : Prop := rows ≠ [] ∧ ∀ (n : Nat) (p : Rat × List Rat), (ns.zip rows)[n]? = some p → p.1.num.sign ≠ 0 → ∀ x ∈ (((ns.zip rows).take n).foldl mixPut (List.replicate (wideQ rows) 0)).zip p.2, SmQ x.1 ∧ SmQ p.1 ∧ SmQ x.2 ∧ SmQ (p.1 * x.2)
def lotT (h : Hou) : List Tab := (m_told_rows (m_int_lot h)).map fun r => m_short_of r (h.n : Int)
def colsOf (l : Tab) (ts : List Tab) : List (List Rat) := ts.map fun t => m_apart_of l t
def turned (cols : List (List Rat)) (n : Nat) : List (List Rat) := (upto n).map fun p => cols.map fun c => atQ c p
def midLines (h : Hou) : List (List Rat) := h.ls.flatMap fun l => turned (colsOf l (lotT h)) (h.n * h.n)
def midFound (h : Hou) : List (List Rat) := (m_kernel_of (midLines h) ((m_told_rows (m_int_lot h)).length : Int)).map fun ns => m_mixed_row ns (m_told_rows (m_int_lot h))
def m_middle_of (h : Hou) : List Tab := (m_steps_of (midFound h)).map fun r => m_short_of r (h.n : Int)
def A_middle_of (h : Hou) : Prop := h.n ≤ 4 ∧ h.ls.length < 10 ∧ A_int_lot h ∧ A_told_rows (m_int_lot h) ∧ (∀ l ∈ h.ls, ∀ t ∈ lotT h, A_apart_of l t ∧ (m_apart_of l t).length = h.n * h.n) ∧ A_kernel_of (midLines h) ((m_told_rows (m_int_lot h)).length : Int)
  ∧ (∀ ns ∈ m_kernel_of (midLines h) ((m_told_rows (m_int_lot h)).length : Int), A_mixed_row ns (m_told_rows (m_int_lot h))) ∧ A_steps_of (midFound h)
/-! rooms -/
def headSign (row : List Rat) : Int := ((row.findIdx fun q => decide (q.num.sign ≠ 0) : Nat) : Int)
def m_heads_of (room : List (List Rat)) : List Int := room.map headSign
def A_heads_of (room : List (List Rat)) : Prop := ∀ r ∈ room, ∃ q ∈ r, q.num.sign ≠ 0
def m_numbers_in (room : List (List Rat)) (row : List Rat) : List Rat := (m_heads_of room).map fun p => atQ row p
def A_numbers_in (room : List (List Rat)) (row : List Rat) : Prop := A_heads_of room ∧ ∀ p ∈ m_heads_of room, inR row p
def lessPut (found : List Rat) (p : Rat × List Rat) : List Rat := if p.1.num.sign ≠ 0 then (found.zip p.2).map fun x => x.1 - p.1 * x.2 else found
def m_less_room (room : List (List Rat)) (row : List Rat) : List Rat := ((m_numbers_in room row).zip room).foldl lessPut row
def A_less_room (room : List (List Rat)) (row : List Rat) : Prop := A_numbers_in room row ∧ ∀ (n : Nat) (p : Rat × List Rat), ((m_numbers_in room row).zip room)[n]? = some p → p.1.num.sign ≠ 0 → ∀ x ∈ ((((m_numbers_in room row).zip room).take n).foldl lessPut row).zip p.2, SmQ x.1 ∧ SmQ p.1 ∧ SmQ x.2 ∧ SmQ (p.1 * x.2)
def m_held (room : List (List Rat)) (row : List Rat) : Bool := (m_less_room room row).all fun q => decide (q.num.sign = 0)
abbrev A_held (room : List (List Rat)) (row : List Rat) : Prop := A_less_room room row
def A_first_out (h : Hou) (room : List (List Rat)) : Prop := ∀ step ∈ room, ∀ l ∈ h.ls, A_led_by step l ∧ A_held room (m_led_by step l) ∧ m_held room (m_led_by step l) = true
def m_rows_in (h : Hou) (v : NTab) : Option (List (List Rat)) := some (ratT v)
def A_rows_in (h : Hou) (v : NTab) : Prop := v.length ≤ 40 ∧ ∀ r ∈ v, r.length = h.n
def A_room_in (h : Hou) (v : NTab) : Prop := A_rows_in h v ∧ A_steps_of (ratT v) ∧ m_steps_of (ratT v) = ratT v ∧ A_first_out h (ratT v)
def cutLs (h : Hou) (room : List (List Rat)) : List Tab := h.ls.map fun l => room.map fun s => m_numbers_in room (m_led_by s l)
def m_cut_of (h : Hou) (room : List (List Rat)) : Hou := m_house_of (cutLs h room)
def A_cut_of (h : Hou) (room : List (List Rat)) : Prop := (∀ l ∈ h.ls, ∀ s ∈ room, A_led_by s l ∧ A_numbers_in room (m_led_by s l)) ∧ A_house_of (cutLs h room)
/-! partners -/
def heldRow (step : List Rat) (many size : Nat) (place : Int) : List Rat := (upto size).foldl (fun row a => row.set (a * (many : Int) + place).toNat (atQ step a)) (List.replicate (size * many) 0)
def heldLine (many size : Nat) (p : Int × List Rat) (place : Int) : List Rat := heldRow p.2 many size place ++ [if p.1 = place then 1 else 0]
def m_held_rows (room : List (List Rat)) (size : Int) : List (List Rat) := (enumL room).flatMap fun p => (upto room.length).map fun place => heldLine room.length size.toNat p place
def A_held_rows (room : List (List Rat)) (size : Int) : Prop := room.length ≤ 10 ∧ 0 ≤ size ∧ size ≤ 10 ∧ ∀ r ∈ room, r.length = size.toNat
def evenOne (letter : Tab) (many : Nat) (line place : Int) : List Rat := (upto letter.length).foldl (fun row a => row.set (a * (many : Int) + place).toNat (atQ (atL letter line) a)) (List.replicate (letter.length * many) 0)
def evenStep (small : Tab) (line place : Int) (row : List Rat) (a : Int) : List Rat := row.set (line * (small.length : Int) + a).toNat (atQ row (line * (small.length : Int) + a) - atQ (atL small a) place)
def evenRow (letter small : Tab) (line place : Int) : List Rat := (upto small.length).foldl (evenStep small line place) (evenOne letter small.length line place)
def evenLines (letter small : Tab) (line : Int) : List (List Rat) := (upto small.length).map fun place => evenRow letter small line place ++ [0]
def m_even_rows (letter small : Tab) : List (List Rat) := (upto letter.length).flatMap fun line => evenLines letter small line
def A_even_rows (letter small : Tab) : Prop := letter.length ≤ 10 ∧ small.length ≤ 10 ∧ sqT letter letter.length ∧ sqT small small.length ∧
  ∀ (line place : Int) (m : Nat) (a : Int), line ∈ upto letter.length → place ∈ upto small.length → (upto small.length)[m]? = some a → SmQ (atQ (((upto small.length).take m).foldl (evenStep small line place) (evenOne letter small.length line place)) (line * (small.length : Int) + a)) ∧ SmQ (atQ (atL small a) place)
def ontoRows (h : Hou) (room : List (List Rat)) : List (List Rat) := m_held_rows room (h.n : Int) ++ (h.ls.zip (m_cut_of h room).ls).flatMap fun p => m_even_rows p.1 p.2
def lastQ (r : List Rat) : Rat := r.getLast?.getD 0
def m_onto_of (h : Hou) (room : List (List Rat)) : Option Tab := none
def A_onto_of (h : Hou) (room : List (List Rat)) : Prop := room.length ≠ 0 ∧ h.ls.length < 10 ∧ A_held_rows room (h.n : Int) ∧ A_cut_of h room ∧ (∀ p ∈ h.ls.zip (m_cut_of h room).ls, A_even_rows p.1 p.2) ∧ (∀ r ∈ ontoRows h room, r ≠ []) ∧
  A_solution_of ((ontoRows h room).map fun r => r.dropLast) ((ontoRows h room).map lastQ) ∧ m_solution_of ((ontoRows h room).map fun r => r.dropLast) ((ontoRows h room).map lastQ) = none
def m_partner_of (h : Hou) (room : List (List Rat)) : Option Tab := none
abbrev A_partner_of (h : Hou) (room : List (List Rat)) : Prop := A_onto_of h room
def m_partner (h : Hou) (v : NTab) : Option Tab := none
def A_partner (h : Hou) (v : NTab) : Prop := A_room_in h v ∧ A_onto_of h (ratT v)
/-! sums -/
def crossOf (t o : Tab) : List Rat := (enumL t).flatMap fun p => (enumL p.2).map fun x => x.2 * atQ (atL o x.1) p.1
def m_sum_of_two (t o : Tab) : Rat := sumQ (crossOf t o)
def A_sum_of_two (t o : Tab) : Prop := t.length ≤ 4 ∧ sqT t t.length ∧ sqT o t.length ∧ (∀ r ∈ t, ∀ x ∈ r, SmQ x) ∧ (∀ r ∈ o, ∀ x ∈ r, SmQ x) ∧ A_total_of (crossOf t o)
def m_sums_of (b : List (List Int × Tab)) : List (List Rat) := (b.map fun p => p.2).map fun n => (b.map fun p => p.2).map fun f => m_sum_of_two n f
def A_sums_of (b : List (List Int × Tab)) : Prop := ∀ n ∈ b, ∀ f ∈ b, A_sum_of_two n.2 f.2
def m_rank_of (rows : List (List Rat)) : Int := ((m_steps_of rows).length : Int)
abbrev A_rank_of (rows : List (List Rat)) : Prop := A_steps_of rows
def m_parts_of (h : Hou) : Bool := decide (m_rank_of (m_sums_of (m_base_of h)) = ((m_base_of h).length : Int))
def A_parts_of (h : Hou) : Prop := A_base_of h ∧ A_sums_of (m_base_of h) ∧ A_rank_of (m_sums_of (m_base_of h))
abbrev m_parts (h : Hou) : Bool := m_parts_of h
abbrev A_parts (h : Hou) : Prop := A_parts_of h
end TW
set_option Elab.async false
set_option linter.all false
set_option maxRecDepth 100000
set_option maxHeartbeats 4000000
namespace TW
open PySem PySem.Spec PyProof.Rows L2
theorem sm_small {i : Int} (h : i.natAbs < 2 ^ 64) : Sm i := Nat.lt_of_lt_of_le h (Nat.pow_le_pow_right (by decide) (by decide))
theorem sm_nat {n : Nat} (h : n < 10000000) : Sm (n : Int) := sm_small (by
  have : (10000000 : Nat) < 2 ^ 64 := by decide
  omega)
theorem upto_at {n k : Nat} {a : Int} (h : (upto n)[k]? = some a) : a = (k : Int) ∧ k < n := ints_at h
theorem upto_mem {n : Nat} {a : Int} (h : a ∈ upto n) : 0 ≤ a ∧ a < (n : Int) := by
  unfold upto at h
  obtain ⟨m, hm, rfl⟩ := List.mem_map.mp h
  have := List.mem_range.mp hm
  omega
theorem upto_len (n : Nat) : (upto n).length = n := ints_len n
theorem map_flat_take {α β : Type} {xs : List α} {n : Nat} {a : α} (f : α → List β) (h : xs[n]? = some a) : (xs.take (n + 1)).flatMap f = (xs.take n).flatMap f ++ f a := by
  rw [take_succ' h, List.flatMap_append]
  simp
theorem flat_take {β : Type} {xs : List (List β)} {n : Nat} {a : List β} (h : xs[n]? = some a) : (xs.take (n + 1)).flatten = (xs.take n).flatten ++ a := by
  rw [take_succ' h, List.flatten_append]
  simp
theorem take_flat_le {β : Type} (xs : List (List β)) : ∀ n : Nat, (xs.take n).flatten.length ≤ xs.flatten.length := by
  induction xs with
  | nil => intro n; simp
  | cons x xs ih =>
    intro n
    cases n with
    | zero => simp
    | succ n =>
      have := ih n
      simp only [List.take_succ_cons, List.flatten_cons, List.length_append]
      omega
theorem len_small {n : Nat} (h : n < 1000) : n < big := by unfold big; omega
/-- an option list whose every item is there -/
theorem rL_some {α : Type} {R : RT α} {xs : List α} {G : Hp} {v : V} (h : (rL (rO R)).rel G v (xs.map some)) : (rL R).rel G v xs := by
  obtain ⟨a, vs, e, g, r, z⟩ := h
  refine ⟨a, vs, e, g, ?_, by rw [List.length_map] at z; exact z⟩
  clear z g e
  induction xs generalizing vs with
  | nil => cases r; exact .nil
  | cons x xs ih =>
    cases r with
    | cons r1 r2 => exact .cons r1 (ih _ r2)
theorem rL_map {α β : Type} {R : RT α} {S : RT β} {f : α → β} {xs : List α} {G : Hp} {v : V} (hf : ∀ u x, R.rel G u x → S.rel G u (f x)) (h : (rL R).rel G v xs) : (rL S).rel G v (xs.map f) := by
  obtain ⟨a, vs, e, g, r, z⟩ := h
  refine ⟨a, vs, e, g, ?_, by rw [List.length_map]; exact z⟩
  clear z g e
  induction xs generalizing vs with
  | nil => cases r; exact .nil
  | cons x xs ih =>
    cases r with
    | cons r1 r2 => exact .cons (hf _ _ r1) (ih _ r2)
section
variable {P : Program} {w : World} {K : PySem.W.Frag} {mg : Str → Option Value} {base : Heap}
abbrev s_table_in : Stmt := (topS 45)
abbrev N_table_in : List Str := ["value", "row", "number"]
theorem sc_table_in : FnScope N_table_in ["value"] (defScope s_table_in) := ⟨rfl, rfl, rfl, by decide +kernel, rfl, by decide +kernel, by decide +kernel⟩
abbrev T_table_in (P : Program) (w : World) (K : PySem.W.Frag) (mg : Str → Option Value) (base : Heap) : Prop := Ok P w K mg base "table_in" 45 ["value"] (sp1 (rL (rL rNV)) A_table_in (rO (rL (rL rQ))) m_table_in)
theorem ok_table_in (T : Tx P K mg base) (d : Df K mg "table_in" s_table_in) (O_is_list : T_is_list P w K mg base) (O_are_numbers : T_are_numbers P w K mg base) (O_ratio_of : T_ratio_of P w K mg base) : T_table_in P w K mg base := by
  refine mkOk d sc_table_in (fun _ _ _ _ _ _ us hl => match us, hl with | [_], _ => rfl) len1 fun f cdv A outer s H E hr => ?_
  have nd := sc_table_in.nd
  refine ⟨_, (pss_cons (ps_if (PW.pt (pw_or (pt_not (pt_val (pe_callO O_is_list (hr.mono (by decide)) (by rfl) (pa_cons (pv 0) pa_nil)))) (pw_or1 (pt_not (pt_chain op_le op_le pe_int (pe_callB (call_lenK (K := K) rfl) (by rfl) T.len bt_len (pa_cons (pv 0) pa_nil)) (pe_globI (by rfl) T.n_MOST_SIZE_tables)))))) (pss_one (ps_ret pe_non)) pss_nil)
      (pss_cons (ps_if (pt_not (pt_val (pe_callB (cr_allK (K := K) rfl rfl) (by rfl) T.all bt_all (pa_cons (pe_lc (own := [("row", 1)]) (g := gName 1) (tt := tYes) rfl nd (pi_listK (K := K) rfl (pv 0)) (blkOk_by (by kernel_rfl)) (fun _ _ _ _ _ => (pg_name (i := 1) nd rfl (by first | exact Or.inl rfl | exact Or.inr rfl))) (fun _ _ _ _ _ => pts_nil) (fun _ _ _ _ _ => (pe_callO O_are_numbers (hr.mono (by decide)) (by rfl) (pa_cons (pv 1) (pa_cons (pe_callB (call_lenK (K := K) rfl) (by rfl) T.len bt_len (pa_cons (pv 0) pa_nil)) pa_nil))))) pa_nil)))) (pss_one (ps_ret pe_non)) pss_nil)
      (pss_one (ps_ret (pe_lc (own := [("row", 1)]) (g := gName 1) (tt := tYes) rfl nd (pi_listK (K := K) rfl (pv 0)) (blkOk_by (by kernel_rfl)) (fun _ _ _ _ _ => (pg_name (i := 1) nd rfl (by first | exact Or.inl rfl | exact Or.inr rfl))) (fun _ _ _ _ _ => pts_nil) (fun _ _ _ _ _ => (pe_lc (own := [("number", 2)]) (g := gName 2) (tt := tYes) rfl nd (pi_listK (K := K) rfl (pv 1)) (blkOk_by (by kernel_rfl)) (fun _ _ _ _ _ => (pg_name (i := 2) nd rfl (by first | exact Or.inl rfl | exact Or.inr rfl))) (fun _ _ _ _ _ => pts_nil) (fun _ _ _ _ _ => (pe_callO O_ratio_of (hr.mono (by decide)) (by rfl) (pa_cons (pv 2) pa_nil)))))))))), fin1 (n := 2) rfl ?_⟩
  intro v G H Q c k
  obtain ⟨c1, c2, c3⟩ := c
  refine sg_seq (sg_ifF (b := false || !(decide ((1 : Int) ≤ (v.length : Int)) && decide ((v.length : Int) ≤ 4))) up_true (tg_or (tg_not (tg_B (eg_call1 ((eg_var 0 rfl).as fun G v r => rL_ls r) trivial))) (fun _ => tg_not (tg_val (eg_chain eg_int (eg_len (eg_var 0 rfl)) eg_int)))) ?_ (sg_next (nx_go ?_)))
  · have h1 : decide ((1 : Int) ≤ (v.length : Int)) = true := decide_eq_true (by omega)
    have h2 : decide ((v.length : Int) ≤ 4) = true := decide_eq_true (by omega)
    rw [h1, h2]
    rfl
  refine sg_seq (sg_ifF (b := !((v.map fun r => m_are_numbers r (v.length : Int)).all id)) up_true (tg_not (tg_B (eg_all (en_lc (f := fun r : List NumV => m_are_numbers r (v.length : Int)) (ig_list (eg_var 0 rfl)) (by decide) (fun n r hr => ⟨_, gt_name (by decide), eg_call2 (eg_var 1 rfl) (eg_len (eg_var 0 rfl)) trivial⟩)).eg))) ?_ (sg_next (nx_go ?_)))
  · have : (v.map fun r => m_are_numbers r (v.length : Int)).all id = true := by
      rw [List.all_map, List.all_eq_true]
      intro r hr
      unfold m_are_numbers
      simp [c3 r hr]
    rw [this]
    rfl
  · exact sg_out (eg_some (en_lc (f := fun r : List NumV => r.map m_ratio_of) (ig_list (eg_var 0 rfl)) (by decide) (fun n r hr => ⟨_, gt_name (by decide), (en_lc (f := m_ratio_of) (ig_list (eg_var 1 rfl)) (by decide) (fun m x hx => ⟨_, gt_name (by decide), eg_call1 (eg_var 2 rfl) trivial⟩)).eg⟩)).eg) k rfl
abbrev s_bare_table : Stmt := (topS 46)
abbrev N_bare_table : List Str := ["table", "flat", "wide", "row", "bottom", "numbers", "at"]
theorem sc_bare_table : FnScope N_bare_table ["table"] (defScope s_bare_table) := ⟨rfl, rfl, rfl, by decide +kernel, rfl, by decide +kernel, by decide +kernel⟩
abbrev T_bare_table (P : Program) (w : World) (K : PySem.W.Frag) (mg : Str → Option Value) (base : Heap) : Prop := Ok P w K mg base "bare_table" 42 ["table"] (sp1 (rL (rL rQ)) A_bare_table (rP rI (rL (rL rI))) m_bare_table)
theorem ok_bare_table (T : Tx P K mg base) (d : Df K mg "bare_table" s_bare_table) (O_wholes : T_wholes P w K mg base) : T_bare_table P w K mg base := by
  refine mkOk d sc_bare_table (fun _ _ _ _ _ _ us hl => match us, hl with | [_], _ => rfl) len1 fun f cdv A outer s H E hr => ?_
  have nd := sc_bare_table.nd
  refine ⟨_, (pss_cons (ps_if (pt_cmpR op_eq (pe_callB (call_lenK (K := K) rfl) (by rfl) T.len bt_len (pa_cons (pv 0) pa_nil)) pe_int (nomark _)) (pss_one (ps_ret (pe_tup (pa_cons pe_int (pa_cons (pe_lst pa_nil) pa_nil))))) pss_nil)
      (pss_cons (ps_asg (pe_tup (pa_cons (pe_lst pa_nil) (pa_cons (pe_callB (call_lenK (K := K) rfl) (by rfl) T.len bt_len (pa_cons (pe_ix (ix_listK (K := K) rfl) (pv 0) pe_int (fun _ _ => rfl)) pa_nil)) pa_nil))) (pg_tupK (K := K) (n := 2) rfl rfl (pgs_cons (pg_name (i := 1) nd rfl (Or.inl rfl)) (pgs_cons (pg_name (i := 2) nd rfl (Or.inr rfl)) pgs_nil))))
      (pss_cons (ps_for PassesOwn.never rfl (pi_listK (K := K) rfl (pv 0)) (pg_name (i := 3) nd rfl (Or.inl rfl)) (pss_one (ps_expr (pe_bm PySem.F.plainAttrs_list PySem.F.slot_list_extend PySem.F.type_list_extend mt_extend (pv 1) (pa_cons (pv 3) pa_nil)))))
      (pss_cons (ps_asg (pe_callO O_wholes (hr.mono (by decide)) (by rfl) (pa_cons (pv 1) pa_nil)) (pg_tupK (K := K) (n := 2) rfl rfl (pgs_cons (pg_name (i := 4) nd rfl (Or.inl rfl)) (pgs_cons (pg_name (i := 5) nd rfl (Or.inr rfl)) pgs_nil))))
      (pss_one (ps_ret (pe_tup (pa_cons (pv 4) (pa_cons (pe_lc (own := [("at", 6)]) (g := gName 6) (tt := tYes) rfl nd (pi_range1 (by rfl) T.range (pa_cons (pe_callB (call_lenK (K := K) rfl) (by rfl) T.len bt_len (pa_cons (pv 0) pa_nil)) pa_nil)) (blkOk_by (by kernel_rfl)) (fun _ _ _ _ _ => (pg_name (i := 6) nd rfl (by first | exact Or.inl rfl | exact Or.inr rfl))) (fun _ _ _ _ _ => pts_nil) (fun _ _ _ _ _ => (pe_slice (sl_listK (K := K) rfl) (pv 5) (po_some (pe_op op_mulP (pv 6) (pv 2))) (po_some (pe_op op_mulP (pe_op op_add (pv 6) pe_int) (pv 2)))))) pa_nil))))))))), fin1 (n := 6) rfl ?_⟩
  intro t G H Q c k
  obtain ⟨cw, cf, cl, cd⟩ := c
  refine sg_seq (sg_if (b := decide ((t.length : Int) = 0)) up_true (tg_val (eg_eq (eg_len (eg_var 0 rfl)) eg_int)) (fun h => ?_) (fun h => sg_next (nx_go ?_)))
  · have h' : t.length = 0 := by have := of_decide_eq_true h; omega
    refine sg_out (eg_tup eg_int (en_nil (rL rI)).eg) (k.cast ?_) rfl
    unfold m_bare_table
    rw [if_pos h']
  · have h' : ¬ t.length = 0 := by have := of_decide_eq_false h; omega
    have hq : ((atL t 0).length : Int) = (wideQ t : Int) := by
      cases t with
      | nil => exact absurd rfl h'
      | cons r rs => simp [atL, wideQ]
    refine sg_seq (sg_ownTup up_true (by simp [nos]) (en_nil rQ) ((eg_len (eg_ix (eg_var 0 rfl) eg_int (atL_at (by decide) (show (0 : Int).toNat < t.length by rw [Int.toNat_zero]; omega)))).cast hq) (nx_go ?_))
    refine sg_seq (sg_for up_true (ig_list (eg_var 0 rfl)) (fun n => [.im (rL (rL rQ)) t, .own rQ (t.take n).flatten, .im rI (wideQ t : Int), .no, .no, .no, .no]) ⟨.inr rfl, .inr rfl, .inr rfl, .inl rfl, .inl rfl, .inl rfl, .inl rfl, trivial⟩ (fun n a P' hu ha => ⟨_, gl_name, ?_⟩) ?_)
    · have e := flat_take ha
      have le := take_flat_le t (n + 1)
      rw [e, List.length_append] at le
      exact sg_extend hu rfl (eg_var 3 rfl) (by unfold big; omega) (nx_of rfl ⟨.inr rfl, .inr (by rw [e]), .inr rfl, .inl rfl, .inl rfl, .inl rfl, .inl rfl, trivial⟩)
    · rw [List.take_length]
      refine sg_freeze (n := 1) up_true rfl (sg_seq (sg_pair up_true (eg_call1 (eg_var 1 rfl) cw) (nx_go ?_)))
      refine sg_out (eg_tup (eg_var 4 rfl) (en_lc (f := fun a : Int => cutL (m_wholes t.flatten).2 (some (a * (wideQ t : Int))) (some ((a + 1) * (wideQ t : Int)))) (ig_range (n := (t.length : Int)) (eg_len (eg_var 0 rfl)) (by omega) (by omega)) (by decide) (fun n a ha => ⟨_, gt_name (by decide), (en_slice (eg_var 5 rfl) (po_so (eg_mulP (eg_var 6 rfl) (eg_var 2 rfl) ?_ ?_)) (po_so (eg_mulP (eg_add (eg_var 6 rfl) eg_int) (eg_var 2 rfl) ?_ ?_))).eg⟩)).eg) (k.cast ?_) rfl
      · obtain ⟨rfl, hn⟩ := ints_at ha
        exact sm_nat (by omega)
      · exact sm_nat (by omega)
      · obtain ⟨rfl, hn⟩ := ints_at ha
        exact sm_small (by omega)
      · exact sm_nat (by omega)
      · unfold m_bare_table chop upto
        rw [if_neg h', Int.toNat_natCast]
abbrev s_int_product : Stmt := (topS 47)
abbrev N_int_product : List Str := ["rows", "others", "wide", "row", "to", "number", "line"]
theorem sc_int_product : FnScope N_int_product ["rows", "others"] (defScope s_int_product) := ⟨rfl, rfl, rfl, by decide +kernel, rfl, by decide +kernel, by decide +kernel⟩
abbrev T_int_product (P : Program) (w : World) (K : PySem.W.Frag) (mg : Str → Option Value) (base : Heap) : Prop := Ok P w K mg base "int_product" 41 ["rows", "others"] (sp2 (rL (rL rI)) (rL (rL rI)) A_int_product (rL (rL rI)) m_int_product)
theorem ok_int_product (T : Tx P K mg base) (d : Df K mg "int_product" s_int_product) : T_int_product P w K mg base := by
  refine mkOk d sc_int_product (fun _ _ _ _ _ _ us hl => match us, hl with | [_, _], _ => rfl) len2 fun f cdv A outer s H E hr => ?_
  have nd := sc_int_product.nd
  refine ⟨_, (pss_cons (ps_set (i := 2) nd rfl (Or.inr rfl) (pe_ifExp (pt_cmpR op_gt (pe_callB (call_lenK (K := K) rfl) (by rfl) T.len bt_len (pa_cons (pv 1) pa_nil)) pe_int (nomark _)) (pe_callB (call_lenK (K := K) rfl) (by rfl) T.len bt_len (pa_cons (pe_ix (ix_listK (K := K) rfl) (pv 1) pe_int (fun _ _ => rfl)) pa_nil)) pe_int))
      (pss_one (ps_ret (pe_lc (own := [("row", 3)]) (g := gName 3) (tt := tYes) rfl nd (pi_listK (K := K) rfl (pv 0)) (blkOk_by (by kernel_rfl)) (fun _ _ _ _ _ => (pg_name (i := 3) nd rfl (by first | exact Or.inl rfl | exact Or.inr rfl))) (fun _ _ _ _ _ => pts_nil) (fun _ _ _ _ _ => (pe_lc (own := [("to", 4)]) (g := gName 4) (tt := tYes) rfl nd (pi_range1 (by rfl) T.range (pa_cons (pv 2) pa_nil)) (blkOk_by (by kernel_rfl)) (fun _ _ _ _ _ => (pg_name (i := 4) nd rfl (by first | exact Or.inl rfl | exact Or.inr rfl))) (fun _ _ _ _ _ => pts_nil) (fun _ _ _ _ _ => (pe_callB (cr_sumK (K := K) rfl rfl) (by rfl) T.sum bt_sum (pa_cons (pe_lc (own := [("number", 5), ("line", 6)]) (tt := tYes) rfl nd (pi_zipK (K := K) rfl (by rfl) T.zip (pa_cons (pv 3) (pa_cons (pv 1) pa_nil))) (blkOk_by (by kernel_rfl)) (fun _ _ _ _ _ => (pg_tupK (K := K) (n := 2) rfl rfl (pgs_cons (pg_name (i := 5) nd rfl (by first | exact Or.inl rfl | exact Or.inr rfl)) (pgs_cons (pg_name (i := 6) nd rfl (by first | exact Or.inl rfl | exact Or.inr rfl)) pgs_nil)))) (fun _ _ _ _ _ => pts_nil) (fun _ _ _ _ _ => (pe_op op_mulP (pv 5) (pe_ix (ix_listK (K := K) rfl) (pv 6) (pv 4) (fun _ _ => rfl))))) pa_nil))))))))), fin2 (n := 5) rfl ?_⟩
  intro rows others G H Q c k
  refine sg_lens (n := 1) rfl fun z => ?_
  have hw : wideI others < big := by
    cases others with
    | nil => exact (by decide : 0 < big)
    | cons r rs => exact z r (List.mem_cons_self ..)
  refine sg_seq (sg_asg up_true ((eg_if (b := decide (0 < others.length)) (x1 := ((atL others 0).length : Int)) (x2 := 0) ((tg_val (eg_gt (eg_len (eg_var 1 rfl)) eg_int)).cast (by simp)) (fun h => eg_len (eg_ix (eg_var 1 rfl) eg_int (atL_at (by decide) (by simpa using h)))) (fun h => eg_int)).cast (x' := (wideI others : Int)) ?_) (nx_go ?_))
  · cases others with
    | nil => rfl
    | cons r rs => simp [atL, wideI]
  · refine sg_out (en_lc (f := fun row => (upto (wideI others)).map fun to => dotI row others to) (ig_list (eg_var 0 rfl)) (by decide) (fun n row hr => ⟨_, gt_name (by decide), (en_lc (f := fun to => dotI row others to) (ig_range (n := (wideI others : Int)) (eg_var 2 rfl) (by omega) (by unfold big at hw; omega)) (by decide) (fun m to hto => ⟨_, gt_name (by decide), eg_sum (en_lc (f := fun p : Int × List Int => p.1 * at0 p.2 to) (ig_zip (eg_var 3 rfl) (eg_var 1 rfl)) (by decide) (fun i p hp => ⟨_, gt_pair (gt_name (by decide)) (gt_name (by decide)), ?_⟩)).eg⟩)).eg⟩)).eg k rfl
    have hz := List.of_mem_zip (mem_of_at hp)
    obtain ⟨rfl, hm⟩ := ints_at hto
    have hl := c.2 _ hz.2
    have hin : inR p.2 (m : Int) := ⟨by omega, by rw [hl.1]; omega⟩
    refine eg_mulP (eg_var 5 rfl) (eg_ix (eg_var 6 rfl) (eg_var 4 rfl) (at0_at hin.1 hin.2)) (c.1 _ (mem_of_at hr) _ hz.1) (hl.2 _ ?_)
    unfold at0
    rw [List.getElem?_eq_getElem hin.2]
    exact List.getElem_mem hin.2
abbrev s_over_bottom : Stmt := (topS 48)
abbrev N_over_bottom : List Str := ["rows", "bottom", "row", "number"]
theorem sc_over_bottom : FnScope N_over_bottom ["rows", "bottom"] (defScope s_over_bottom) := ⟨rfl, rfl, rfl, by decide +kernel, rfl, by decide +kernel, by decide +kernel⟩
abbrev T_over_bottom (P : Program) (w : World) (K : PySem.W.Frag) (mg : Str → Option Value) (base : Heap) : Prop := Ok P w K mg base "over_bottom" 44 ["rows", "bottom"] (sp2 (rL (rL rI)) rI A_over_bottom (rL (rL rQ)) m_over_bottom)
theorem ok_over_bottom (T : Tx P K mg base) (d : Df K mg "over_bottom" s_over_bottom) (MQ : MkQ P w K mg base 42) : T_over_bottom P w K mg base := by
  refine mkOk d sc_over_bottom (fun _ _ _ _ _ _ us hl => match us, hl with | [_, _], _ => rfl) len2 fun f cdv A outer s H E hr => ?_
  have nd := sc_over_bottom.nd
  refine ⟨_, (pss_one (ps_ret (pe_lc (own := [("row", 2)]) (g := gName 2) (tt := tYes) rfl nd (pi_listK (K := K) rfl (pv 0)) (blkOk_by (by kernel_rfl)) (fun _ _ _ _ _ => (pg_name (i := 2) nd rfl (by first | exact Or.inl rfl | exact Or.inr rfl))) (fun _ _ _ _ _ => pts_nil) (fun _ _ _ _ _ => (pe_lc (own := [("number", 3)]) (g := gName 3) (tt := tYes) rfl nd (pi_listK (K := K) rfl (pv 2)) (blkOk_by (by kernel_rfl)) (fun _ _ _ _ _ => (pg_name (i := 3) nd rfl (by first | exact Or.inl rfl | exact Or.inr rfl))) (fun _ _ _ _ _ => pts_nil) (fun _ _ _ _ _ => (pe_mkQ2 MQ T.g_Ratio (hr.mono (by decide)) (by rfl) (pa_cons (pv 3) (pa_cons (pv 1) pa_nil))))))))), fin2 (n := 2) rfl ?_⟩
  intro rows b G H Q c k
  exact sg_out (en_lc (f := fun r => r.map fun n => Rat.divInt n b) (ig_list (eg_var 0 rfl)) (by decide) (fun n row hr => ⟨_, gt_name (by decide), (en_lc (f := fun n => Rat.divInt n b) (ig_list (eg_var 2 rfl)) (by decide) (fun m x hx => ⟨_, gt_name (by decide), eg_mkQ2 (eg_var 3 rfl) (eg_var 1 rfl) c⟩)).eg⟩)).eg k rfl
abbrev s_idle_of : Stmt := (topS 49)
abbrev N_idle_of : List Str := ["size", "at", "to"]
theorem sc_idle_of : FnScope N_idle_of ["size"] (defScope s_idle_of) := ⟨rfl, rfl, rfl, by decide +kernel, rfl, by decide +kernel, by decide +kernel⟩
abbrev T_idle_of (P : Program) (w : World) (K : PySem.W.Frag) (mg : Str → Option Value) (base : Heap) : Prop := Ok P w K mg base "idle_of" 44 ["size"] (sp1 rI A_idle_of (rL (rL rQ)) m_idle_of)
theorem ok_idle_of (T : Tx P K mg base) (d : Df K mg "idle_of" s_idle_of) (MQ : MkQ P w K mg base 42) : T_idle_of P w K mg base := by
  refine mkOk d sc_idle_of (fun _ _ _ _ _ _ us hl => match us, hl with | [_], _ => rfl) len1 fun f cdv A outer s H E hr => ?_
  have nd := sc_idle_of.nd
  refine ⟨_, (pss_one (ps_ret (pe_lc (own := [("at", 1)]) (g := gName 1) (tt := tYes) rfl nd (pi_range1 (by rfl) T.range (pa_cons (pv 0) pa_nil)) (blkOk_by (by kernel_rfl)) (fun _ _ _ _ _ => (pg_name (i := 1) nd rfl (by first | exact Or.inl rfl | exact Or.inr rfl))) (fun _ _ _ _ _ => pts_nil) (fun _ _ _ _ _ => (pe_lc (own := [("to", 2)]) (g := gName 2) (tt := tYes) rfl nd (pi_range1 (by rfl) T.range (pa_cons (pv 0) pa_nil)) (blkOk_by (by kernel_rfl)) (fun _ _ _ _ _ => (pg_name (i := 2) nd rfl (by first | exact Or.inl rfl | exact Or.inr rfl))) (fun _ _ _ _ _ => pts_nil) (fun _ _ _ _ _ => (pe_mkQ1 MQ T.g_Ratio (hr.mono (by decide)) (by rfl) (pa_cons (pe_callTy call_int1 (by rfl) T.int bt_int (pa_cons (pe_cmpR op_eq (pv 1) (pv 2) (nomark _)) pa_nil)) pa_nil)))))))), fin1 (n := 2) rfl ?_⟩
  intro n G H Q c k
  exact sg_out (en_lc (f := fun a => (upto n.toNat).map fun t => if a = t then (1 : Rat) else 0) (ig_range (n := n) (eg_var 0 rfl) c.1 (by omega)) (by decide) (fun i a ha => ⟨_, gt_name (by decide), (en_lc (f := fun t => if a = t then (1 : Rat) else 0) (ig_range (n := n) (eg_var 0 rfl) c.1 (by omega)) (by decide) (fun j t ht => ⟨_, gt_name (by decide), (eg_mkQ1 (eg_intB (eg_eq (eg_var 1 rfl) (eg_var 2 rfl)))).cast (by
    rw [rat_int]
    by_cases hb : a = t
    · simp [hb]
    · simp [hb])⟩)).eg⟩)).eg k rfl
abbrev s_product_of : Stmt := (topS 50)
abbrev N_product_of : List Str := ["table", "other", "bottom", "rows", "below", "others"]
theorem sc_product_of : FnScope N_product_of ["table", "other"] (defScope s_product_of) := ⟨rfl, rfl, rfl, by decide +kernel, rfl, by decide +kernel, by decide +kernel⟩
abbrev T_product_of (P : Program) (w : World) (K : PySem.W.Frag) (mg : Str → Option Value) (base : Heap) : Prop := Ok P w K mg base "product_of" 45 ["table", "other"] (sp2 (rL (rL rQ)) (rL (rL rQ)) A_product_of (rL (rL rQ)) m_product_of)
theorem ok_product_of (T : Tx P K mg base) (d : Df K mg "product_of" s_product_of) (O_bare_table : T_bare_table P w K mg base) (O_over_bottom : T_over_bottom P w K mg base) (O_int_product : T_int_product P w K mg base) : T_product_of P w K mg base := by
  refine mkOk d sc_product_of (fun _ _ _ _ _ _ us hl => match us, hl with | [_, _], _ => rfl) len2 fun f cdv A outer s H E hr => ?_
  have nd := sc_product_of.nd
  refine ⟨_, (pss_cons (ps_asg (pe_callO O_bare_table (hr.mono (by decide)) (by rfl) (pa_cons (pv 0) pa_nil)) (pg_tupK (K := K) (n := 2) rfl rfl (pgs_cons (pg_name (i := 2) nd rfl (Or.inl rfl)) (pgs_cons (pg_name (i := 3) nd rfl (Or.inl rfl)) pgs_nil))))
      (pss_cons (ps_asg (pe_callO O_bare_table (hr.mono (by decide)) (by rfl) (pa_cons (pv 1) pa_nil)) (pg_tupK (K := K) (n := 2) rfl rfl (pgs_cons (pg_name (i := 4) nd rfl (Or.inl rfl)) (pgs_cons (pg_name (i := 5) nd rfl (Or.inl rfl)) pgs_nil))))
      (pss_one (ps_ret (pe_callO O_over_bottom (hr.mono (by decide)) (by rfl) (pa_cons (pe_callO O_int_product (hr.mono (by decide)) (by rfl) (pa_cons (pv 3) (pa_cons (pv 5) pa_nil))) (pa_cons (pe_op op_mulP (pv 2) (pv 4)) pa_nil))))))), fin2 (n := 4) rfl ?_⟩
  intro t o G H Q c k
  obtain ⟨c1, c2, c3, c4, c5, c6⟩ := c
  refine sg_seq (sg_pair up_true (eg_call1 (eg_var 0 rfl) c1) (nx_go ?_))
  refine sg_seq (sg_pair up_true (eg_call1 (eg_var 1 rfl) c2) (nx_go ?_))
  exact sg_out (eg_call2 (eg_call2 (eg_var 3 rfl) (eg_var 5 rfl) c3) (eg_mulP (eg_var 2 rfl) (eg_var 4 rfl) c5 c6) c4) k rfl
abbrev s_mixed_of : Stmt := (topS 51)
abbrev N_mixed_of : List Str := ["table", "other", "number", "row", "line", "near", "far"]
theorem sc_mixed_of : FnScope N_mixed_of ["table", "other", "number"] (defScope s_mixed_of) := ⟨rfl, rfl, rfl, by decide +kernel, rfl, by decide +kernel, by decide +kernel⟩
abbrev T_mixed_of (P : Program) (w : World) (K : PySem.W.Frag) (mg : Str → Option Value) (base : Heap) : Prop := Ok P w K mg base "mixed_of" 45 ["table", "other", "number"] (sp3 (rL (rL rQ)) (rL (rL rQ)) rQ A_mixed_of (rL (rL rQ)) m_mixed_of)
theorem ok_mixed_of (T : Tx P K mg base) (d : Df K mg "mixed_of" s_mixed_of) (M_mul : T_mul P w K mg base) (M_add : T_add P w K mg base) : T_mixed_of P w K mg base := by
  refine mkOk d sc_mixed_of (fun _ _ _ _ _ _ us hl => match us, hl with | [_, _, _], _ => rfl) len3 fun f cdv A outer s H E hr => ?_
  have nd := sc_mixed_of.nd
  refine ⟨_, (pss_one (ps_ret (pe_lc (own := [("row", 3), ("line", 4)]) (tt := tYes) rfl nd (pi_zipK (K := K) rfl (by rfl) T.zip (pa_cons (pv 0) (pa_cons (pv 1) pa_nil))) (blkOk_by (by kernel_rfl)) (fun _ _ _ _ _ => (pg_tupK (K := K) (n := 2) rfl rfl (pgs_cons (pg_name (i := 3) nd rfl (by first | exact Or.inl rfl | exact Or.inr rfl)) (pgs_cons (pg_name (i := 4) nd rfl (by first | exact Or.inl rfl | exact Or.inr rfl)) pgs_nil)))) (fun _ _ _ _ _ => pts_nil) (fun _ _ _ _ _ => (pe_lc (own := [("near", 5), ("far", 6)]) (tt := tYes) rfl nd (pi_zipK (K := K) rfl (by rfl) T.zip (pa_cons (pv 3) (pa_cons (pv 4) pa_nil))) (blkOk_by (by kernel_rfl)) (fun _ _ _ _ _ => (pg_tupK (K := K) (n := 2) rfl rfl (pgs_cons (pg_name (i := 5) nd rfl (by first | exact Or.inl rfl | exact Or.inr rfl)) (pgs_cons (pg_name (i := 6) nd rfl (by first | exact Or.inl rfl | exact Or.inr rfl)) pgs_nil)))) (fun _ _ _ _ _ => pts_nil) (fun _ _ _ _ _ => (pe_op (op_ownO M_add T.selfQ (hr.mono (by decide))) (pv 5) (pe_op (op_ownO M_mul T.selfQ (hr.mono (by decide))) (pv 2) (pv 6))))))))), fin3 (n := 4) rfl ?_⟩
  intro t o q G H Q c k
  exact sg_out (en_lc (f := fun p : List Rat × List Rat => (p.1.zip p.2).map fun x => x.1 + q * x.2) (ig_zip (eg_var 0 rfl) (eg_var 1 rfl)) (by decide) (fun n p hp => ⟨_, gt_pair (gt_name (by decide)) (gt_name (by decide)), (en_lc (f := fun x : Rat × Rat => x.1 + q * x.2) (ig_zip (eg_var 3 rfl) (eg_var 4 rfl)) (by decide) (fun m x hx => ⟨_, gt_pair (gt_name (by decide)) (gt_name (by decide)),
    eg_own (eg_var 5 rfl) (eg_own (eg_var 2 rfl) (eg_var 6 rfl) ⟨c.1, (c.2 p (mem_of_at hp) x (mem_of_at hx)).2.1⟩) ⟨(c.2 p (mem_of_at hp) x (mem_of_at hx)).1, (c.2 p (mem_of_at hp) x (mem_of_at hx)).2.2⟩⟩)).eg⟩)).eg k rfl
abbrev s_led_by : Stmt := (topS 53)
abbrev N_led_by : List Str := ["row", "table"]
theorem sc_led_by : FnScope N_led_by ["row", "table"] (defScope s_led_by) := ⟨rfl, rfl, rfl, by decide +kernel, rfl, by decide +kernel, by decide +kernel⟩
abbrev T_led_by (P : Program) (w : World) (K : PySem.W.Frag) (mg : Str → Option Value) (base : Heap) : Prop := Ok P w K mg base "led_by" 46 ["row", "table"] (sp2 (rL rQ) (rL (rL rQ)) A_led_by (rL rQ) m_led_by)
theorem ok_led_by (T : Tx P K mg base) (d : Df K mg "led_by" s_led_by) (O_product_of : T_product_of P w K mg base) : T_led_by P w K mg base := by
  refine mkOk d sc_led_by (fun _ _ _ _ _ _ us hl => match us, hl with | [_, _], _ => rfl) len2 fun f cdv A outer s H E hr => ?_
  have nd := sc_led_by.nd
  refine ⟨_, (pss_one (ps_ret (pe_ix (ix_listK (K := K) rfl) (pe_callO O_product_of (hr.mono (by decide)) (by rfl) (pa_cons (pe_lst (pa_cons (pv 0) pa_nil)) (pa_cons (pv 1) pa_nil))) pe_int (fun _ _ => rfl)))), fin2 (n := 0) rfl ?_⟩
  intro row t G H Q c k
  exact sg_out (eg_ix (eg_call2 (en_lst (er_cons (eg_var 0 rfl) er_nil) (show 1 < big by decide)).eg (eg_var 1 rfl) c) eg_int (atL_at (by decide) (by simp [m_product_of, m_over_bottom, m_int_product, m_bare_table, chop, upto]))) k rfl
abbrev s_long_of : Stmt := (topS 54)
abbrev N_long_of : List Str := ["table", "found", "row"]
theorem sc_long_of : FnScope N_long_of ["table"] (defScope s_long_of) := ⟨rfl, rfl, rfl, by decide +kernel, rfl, by decide +kernel, by decide +kernel⟩
abbrev T_long_of (P : Program) (w : World) (K : PySem.W.Frag) (mg : Str → Option Value) (base : Heap) : Prop := Ok P w K mg base "long_of" 41 ["table"] (sp1 (rL (rL rQ)) A_long_of (rL rQ) m_long_of)
theorem ok_long_of (T : Tx P K mg base) (d : Df K mg "long_of" s_long_of) : T_long_of P w K mg base := by
  refine mkOk d sc_long_of (fun _ _ _ _ _ _ us hl => match us, hl with | [_], _ => rfl) len1 fun f cdv A outer s H E hr => ?_
  have nd := sc_long_of.nd
  refine ⟨_, (pss_cons (ps_set (i := 1) nd rfl (Or.inl rfl) (pe_lst pa_nil))
      (pss_cons (ps_for PassesOwn.never rfl (pi_listK (K := K) rfl (pv 0)) (pg_name (i := 2) nd rfl (Or.inl rfl)) (pss_one (ps_expr (pe_bm PySem.F.plainAttrs_list PySem.F.slot_list_extend PySem.F.type_list_extend mt_extend (pv 1) (pa_cons (pv 2) pa_nil)))))
      (pss_one (ps_ret (pv 1))))), fin1 (n := 2) rfl ?_⟩
  intro t G H Q c k
  refine sg_seq (sg_own up_true (by simp [nos]) (en_nil rQ) (nx_go ?_))
  refine sg_seq (sg_for up_true (ig_list (eg_var 0 rfl)) (fun n => [.im (rL (rL rQ)) t, .own rQ (t.take n).flatten, .no]) ⟨.inr rfl, .inr rfl, .inl rfl, trivial⟩ (fun n a P' hu ha => ⟨_, gl_name, ?_⟩) ?_)
  · have e := flat_take ha
    have le := take_flat_le t (n + 1)
    rw [e, List.length_append] at le
    unfold A_long_of at c
    exact sg_extend hu rfl (eg_var 2 rfl) (by unfold big; omega) (nx_of rfl ⟨.inr rfl, .inr (by rw [e]), .inl rfl, trivial⟩)
  · rw [List.take_length]
    exact sg_freeze (n := 1) up_true rfl (sg_out (eg_var 1 rfl) k rfl)
abbrev s_short_of : Stmt := (topS 55)
abbrev N_short_of : List Str := ["row", "size", "at"]
theorem sc_short_of : FnScope N_short_of ["row", "size"] (defScope s_short_of) := ⟨rfl, rfl, rfl, by decide +kernel, rfl, by decide +kernel, by decide +kernel⟩
abbrev T_short_of (P : Program) (w : World) (K : PySem.W.Frag) (mg : Str → Option Value) (base : Heap) : Prop := Ok P w K mg base "short_of" 41 ["row", "size"] (sp2 (rL rQ) rI A_short_of (rL (rL rQ)) m_short_of)
theorem ok_short_of (T : Tx P K mg base) (d : Df K mg "short_of" s_short_of) : T_short_of P w K mg base := by
  refine mkOk d sc_short_of (fun _ _ _ _ _ _ us hl => match us, hl with | [_, _], _ => rfl) len2 fun f cdv A outer s H E hr => ?_
  have nd := sc_short_of.nd
  refine ⟨_, (pss_one (ps_ret (pe_lc (own := [("at", 2)]) (g := gName 2) (tt := tYes) rfl nd (pi_range1 (by rfl) T.range (pa_cons (pv 1) pa_nil)) (blkOk_by (by kernel_rfl)) (fun _ _ _ _ _ => (pg_name (i := 2) nd rfl (by first | exact Or.inl rfl | exact Or.inr rfl))) (fun _ _ _ _ _ => pts_nil) (fun _ _ _ _ _ => (pe_slice (sl_listK (K := K) rfl) (pv 0) (po_some (pe_op op_mulP (pv 2) (pv 1))) (po_some (pe_op op_mulP (pe_op op_add (pv 2) pe_int) (pv 1)))))))), fin2 (n := 1) rfl ?_⟩
  intro row n G H Q c k
  obtain ⟨c0, c1⟩ := c
  refine sg_out (en_lc (f := fun a : Int => cutL row (some (a * n)) (some ((a + 1) * n))) (ig_range (n := n) (eg_var 1 rfl) c0 (by omega)) (by decide) (fun i a ha => ⟨_, gt_name (by decide), (en_slice (eg_var 0 rfl) (po_so (eg_mulP (eg_var 2 rfl) (eg_var 1 rfl) ?_ ?_)) (po_so (eg_mulP (eg_add (eg_var 2 rfl) eg_int) (eg_var 1 rfl) ?_ ?_))).eg⟩)).eg (k.cast ?_) rfl
  · obtain ⟨rfl, hn⟩ := ints_at ha
    exact sm_nat (by omega)
  · exact sm_small (by omega)
  · obtain ⟨rfl, hn⟩ := ints_at ha
    exact sm_small (by omega)
  · exact sm_small (by omega)
  · unfold m_short_of chop upto
    rw [Int.toNat_of_nonneg c0]
end
end TW
set_option Elab.async false
set_option linter.all false
set_option maxRecDepth 100000
set_option maxHeartbeats 4000000
/-! House: its making. -/
namespace TW
open PySem PySem.Spec PyProof.Rows L2
abbrev rN3 : RT NLet := rL (rL (rL rNV))
abbrev hfs (l : V) (v : NLet) : List (Str × V) := [("own_letters", l), ("own_width", .int (((v.headD []).length : Nat) : Int))]
def spH : Sp := fun vs H Q _ => ∃ x dx l v G, vs = [.ref x, l] ∧ H x = some (.ins CH dx []) ∧ G x = none ∧ Same G H ∧ rN3.rel G l v ∧ A_letters_in v ∧
  ∀ G' H' l', Same G G' → Same G' H' → G' x = none → (∀ b, H b ≠ none → G b = none → G' b = none) → (∀ c o, c ≠ x → H c = some o → H' c = some o) → rTs.rel G' l' (v.map ratT) → H' x = some (.ins CH dx (hfs l' v)) → Q .non H'
structure MkH (P : Program) (w : World) (K : PySem.W.Frag) (mg : Str → Option Value) (base : Heap) (k : Nat) : Prop where
  ex : ∃ f fd, Mk K CH f ∧ Binds K fd ["self", "letters"] [] ∧ FnOk P w K mg base CX0 k f fd ["self", "letters"] spH
section
variable {X : Cx} {k : Nat} {e : Expr} {es : List Expr} {ta : TE} {t : TA} {p pos : Pos}
theorem pe_mkH (M : MkH X.prog X.w X.K X.mg X.base k) (hm : X.mg "House" = some (.ref CH)) (hr : Room (k + 1) X.A) (hg : Gl X "House") (ha : PA X (e :: es) t)
    (he : starEach (e :: es) X.env = (false, eval e X.env) :: starEach es X.env := by rfl) (hpl : (backTo pos (starEach es X.env)).any (·.1) = false := by rfl) : PE X (.Call (.Name "House" p) (e :: es) [] pos) (tMake CH spH [] E0 t) := by
  obtain ⟨f, fd, h1, h2, h3⟩ := M.ex
  exact pe_make h1 h3 hr hg hm h2 .nil pass0 ha (by decide) he hpl
end
section
variable {P : Program} {w : World} {K : PySem.W.Frag} {mg : Str → Option Value} {base : Heap}
theorem mkMkH {st : Stmt} {N : List Str} {k : Nat} (d : Dh K st) (sc : FnScope N ["self", "letters"] (defScope st))
    (bd : ∀ (kV doc pm : Value) (an : Option Addr) (cdv ct : Value) (us : List Value), us.length = 2 → bindArgs (PySem.W.fnOf "__init__" "House.__init__" (defArgs st) (defBody st) (defScope st) .none kV doc pm an cdv ct) ⟨us, []⟩ = pure ((["self", "letters"] : List Str).zip us))
    (body : ∀ (f : Addr) (cdv : Value) (A : Around) (outer : List Env) (s : Shared) (H : Hp) (E : XK), Room k (A.deeper (envOfC "House.__init__" (defScope st) s.heap.objs.size f cdv)) →
      ∃ t, PSs (cxOf CX0 P w K mg base N "House.__init__" (defScope st) f cdv A outer s H E).nox (defBody st) t ∧ ∀ (vs : List V) (H' : Hp) (Q : VK), spH vs H' Q E → t { nx := fun _ H' => Q .non H', rt := Q } (L2.start N vs) H') :
    MkH P w K mg base (k + 1) := by
  obtain ⟨f, fd, F, M⟩ := d.ex
  refine ⟨f, fd, M, F.binds bd, F.ok sc (fun vs H Q E h => ?_) fun cdv A outer s H vs Q E hr h => ?_⟩
  · obtain ⟨x, dx, l, v, G, e, _⟩ := h
    rw [e]
    rfl
  · obtain ⟨t, h1, h2⟩ := body f cdv A outer s H E hr
    exact ⟨t, h1, h2 vs H Q h⟩
theorem eg_mkH {Γ : List Sl} {ta : TE} {v : NLet} (ha : EG Γ ta rN3 v) (c : A_letters_in v) : EG Γ (tMake CH spH [] E0 (tCons ta tNil)) rH (m_House v) := fun H0 σ G H Q h0 s t' k =>
  ha H0 σ G H _ h0 s t' fun l G1 H1 p r1 x dx hx hd ne => by
    have gx : G1 x = none := p.s.free hx
    have gd : G1 dx = none := p.s.free hd
    refine ⟨x, dx, l, v, G1, rfl, upd_same, gx, ?_, r1, c, fun G' H' l' s1 s2 g' fr keep rl hx' => ⟨rfl, ?_⟩⟩
    · exact same_out (same_out p.s gd) gx
    · have st : Step G1 H1 (upd G' x (.ins CH dx (hfs l' v))) H' := by
        refine ⟨fun b u e => ?_, fun b u e => ?_, fun b u e => ?_, fun b h1 h2 => ?_⟩
        · have nb : b ≠ x := ne_of_none e gx
          rw [upd_ne nb]
          exact s1 _ _ e
        · by_cases hb : b = x
          · subst hb
            rw [upd_same] at e
            rw [hx']
            exact e
          · rw [upd_ne hb] at e
            exact s2 _ _ e
        · have nb : b ≠ x := ne_of_none e hx
          exact keep b u nb (by rw [upd_ne nb, upd_ne (ne_of_none e hd)]; exact e)
        · have nb : b ≠ x := fun z => h1 (by rw [z]; exact hx)
          have nd : b ≠ dx := fun z => h1 (by rw [z]; exact hd)
          rw [upd_ne nb]
          exact fr b (by rw [upd_ne nb, upd_ne nd]; exact h1) h2
      refine k _ _ H' (p.trans st) ⟨x, dx, l', rfl, upd_same, rTs.mono (same_new g') rl⟩
end
end TW
set_option Elab.async false
set_option linter.all false
set_option maxRecDepth 100000
set_option maxHeartbeats 4000000
namespace TW
open PySem PySem.Spec PyProof.Rows L2
theorem rat_asN (ls : List Tab) : (asN ls).map ratT = ls := by
  unfold asN ratT
  rw [List.map_map]
  conv => rhs; rw [← List.map_id ls]
  refine List.map_congr_left fun t _ => ?_
  show List.map _ (List.map _ t) = t
  rw [List.map_map]
  conv => rhs; rw [← List.map_id t]
  refine List.map_congr_left fun r _ => ?_
  show List.map _ (List.map _ r) = r
  rw [List.map_map]
  conv => rhs; rw [← List.map_id r]
  exact List.map_congr_left fun q _ => rfl
theorem asN_rel {G : Hp} {v : V} {ls : List Tab} (h : rTs.rel G v ls) : rN3.rel G v (asN ls) := rL_map (fun _ _ h1 => rL_map (fun _ _ h2 => rL_map (fun _ _ h3 => h3) h2) h1) h
section
variable {P : Program} {w : World} {K : PySem.W.Frag} {mg : Str → Option Value} {base : Heap}
abbrev s_letters_in : Stmt := (topS 60)
abbrev N_letters_in : List Str := ["value", "found", "table"]
theorem sc_letters_in : FnScope N_letters_in ["value"] (defScope s_letters_in) := ⟨rfl, rfl, rfl, by decide +kernel, rfl, by decide +kernel, by decide +kernel⟩
abbrev T_letters_in (P : Program) (w : World) (K : PySem.W.Frag) (mg : Str → Option Value) (base : Heap) : Prop := Ok P w K mg base "letters_in" 46 ["value"] (sp1 (rL (rL (rL rNV))) A_letters_in (rO (rL (rL (rL rQ)))) m_letters_in)
theorem ok_letters_in (T : Tx P K mg base) (d : Df K mg "letters_in" s_letters_in) (O_is_list : T_is_list P w K mg base) (O_table_in : T_table_in P w K mg base) : T_letters_in P w K mg base := by
  refine mkOk d sc_letters_in (fun _ _ _ _ _ _ us hl => match us, hl with | [_], _ => rfl) len1 fun f cdv A outer s H E hr => ?_
  have nd := sc_letters_in.nd
  refine ⟨_, (pss_cons (ps_if (PW.pt (pw_or (pt_not (pt_val (pe_callO O_is_list (hr.mono (by decide)) (by rfl) (pa_cons (pv 0) pa_nil)))) (pw_or1 (pt_not (pt_chain op_le op_le pe_int (pe_callB (call_lenK (K := K) rfl) (by rfl) T.len bt_len (pa_cons (pv 0) pa_nil)) (pe_globI (by rfl) T.n_MOST_LETTERS)))))) (pss_one (ps_ret pe_non)) pss_nil)
      (pss_cons (ps_set (i := 1) nd rfl (Or.inr rfl) (pe_lc (own := [("table", 2)]) (g := gName 2) (tt := tYes) rfl nd (pi_listK (K := K) rfl (pv 0)) (blkOk_by (by kernel_rfl)) (fun _ _ _ _ _ => (pg_name (i := 2) nd rfl (by first | exact Or.inl rfl | exact Or.inr rfl))) (fun _ _ _ _ _ => pts_nil) (fun _ _ _ _ _ => (pe_callO O_table_in (hr.mono (by decide)) (by rfl) (pa_cons (pv 2) pa_nil)))))
      (pss_cons (ps_if (pt_val (pe_callB (cr_anyK (K := K) rfl rfl) (by rfl) T.any bt_any (pa_cons (pe_lc (own := [("table", 2)]) (g := gName 2) (tt := tYes) rfl nd (pi_listK (K := K) rfl (pv 1)) (blkOk_by (by kernel_rfl)) (fun _ _ _ _ _ => (pg_name (i := 2) nd rfl (by first | exact Or.inl rfl | exact Or.inr rfl))) (fun _ _ _ _ _ => pts_nil) (fun _ _ _ _ _ => (pe_cmp (pc_isN (pv 2))))) pa_nil))) (pss_one (ps_ret pe_non)) pss_nil)
      (pss_one (ps_ret (pe_ifExp (pt_val (pe_callB (cr_allK (K := K) rfl rfl) (by rfl) T.all bt_all (pa_cons (pe_lc (own := [("table", 2)]) (g := gName 2) (tt := tYes) rfl nd (pi_listK (K := K) rfl (pv 1)) (blkOk_by (by kernel_rfl)) (fun _ _ _ _ _ => (pg_name (i := 2) nd rfl (by first | exact Or.inl rfl | exact Or.inr rfl))) (fun _ _ _ _ _ => pts_nil) (fun _ _ _ _ _ => (pe_cmpR op_eq (pe_callB (call_lenK (K := K) rfl) (by rfl) T.len bt_len (pa_cons (pv 2) pa_nil)) (pe_callB (call_lenK (K := K) rfl) (by rfl) T.len bt_len (pa_cons (pe_ix (ix_listK (K := K) rfl) (pv 1) pe_int (fun _ _ => rfl)) pa_nil)) (nomark _)))) pa_nil))) (pv 1) pe_non)))))), fin1 (n := 2) rfl ?_⟩
  intro v G H Q c k
  obtain ⟨c1, c2, c3, c4⟩ := c
  refine sg_seq (sg_ifF (b := false || !(decide ((1 : Int) ≤ (v.length : Int)) && decide ((v.length : Int) ≤ 3))) up_true (tg_or (tg_not (tg_B (eg_call1 ((eg_var 0 rfl).as fun G v r => rL_ls r) trivial))) (fun _ => tg_not (tg_val (eg_chain eg_int (eg_len (eg_var 0 rfl)) eg_int)))) ?_ (sg_next (nx_go ?_)))
  · have h1 : decide ((1 : Int) ≤ (v.length : Int)) = true := decide_eq_true (by omega)
    have h2 : decide ((v.length : Int) ≤ 3) = true := decide_eq_true (by omega)
    rw [h1, h2]
    rfl
  refine sg_seq (sg_asg up_true (en_lc (f := m_table_in) (ig_list (eg_var 0 rfl)) (by decide) (fun n t ht => ⟨_, gt_name (by decide), eg_call1 (eg_var 2 rfl) (c3 t (mem_of_at ht))⟩)).eg (nx_go ?_))
  refine sg_seq (sg_ifF (b := (((v.map m_table_in).map fun o => o.isNone)).any id) up_true (tg_B (eg_any (en_lc (f := fun o : Option Tab => o.isNone) (ig_list (eg_var 1 rfl)) (by decide) (fun n o ho => ⟨_, gt_name (by decide), eg_isN nn_L (eg_var 2 rfl)⟩)).eg)) ?_ (sg_next (nx_go ?_)))
  · rw [List.any_map, List.any_map, List.any_eq_false]
    intro t ht
    simp [m_table_in]
  · have e : v.map m_table_in = (v.map ratT).map some := by rw [List.map_map]; rfl
    rw [e]
    have h0 : v.length ≠ 0 := by omega
    have hall : (((v.map ratT).map fun t => decide ((t.length : Int) = ((atL (v.map ratT) 0).length : Int)))).all id = true := by
      rw [List.all_map, List.all_eq_true]
      intro t ht
      obtain ⟨u, hu, rfl⟩ := List.mem_map.mp ht
      have e1 : (atL (v.map ratT) 0).length = (v.headD []).length := by
        cases v with
        | nil => exact absurd rfl h0
        | cons x xs => simp [atL, ratT]
      have e2 : (ratT u).length = u.length := by simp [ratT]
      show decide (((ratT u).length : Int) = ((atL (v.map ratT) 0).length : Int)) = true
      rw [e1, e2, c4 u hu]
      simp
    have hv : ∀ Γ, gt Γ 1 = .im (rL (rO rT)) ((v.map ratT).map some) → EG Γ (tVar 1) (rL rT) (v.map ratT) := fun Γ h => (eg_var 1 h).as fun G u r => rL_some r
    refine sg_out (eg_if (b := true) (x1 := some (v.map ratT)) (x2 := some (v.map ratT)) ((tg_B (eg_all (en_lc (f := fun t : Tab => decide ((t.length : Int) = ((atL (v.map ratT) 0).length : Int))) (ig_list (hv _ rfl)) (by decide) (fun n t ht => ⟨_, gt_name (by decide), eg_eq (eg_len (eg_var 2 rfl)) (eg_len (eg_ix (hv _ rfl) eg_int (atL_at (by decide) (by simp; omega))))⟩)).eg)).cast hall) (fun _ => eg_some (hv _ rfl)) (fun h => nomatch h)) (k.cast ?_) rfl
    rfl
abbrev s_House_init : Stmt := (inClass (topS 61) 0)
abbrev N_House_init : List Str := ["self", "letters", "found"]
theorem sc_House_init : FnScope N_House_init ["self", "letters"] (defScope s_House_init) := ⟨rfl, rfl, rfl, by decide +kernel, rfl, by decide +kernel, by decide +kernel⟩
abbrev T_House_init (P : Program) (w : World) (K : PySem.W.Frag) (mg : Str → Option Value) (base : Heap) : Prop := MkH P w K mg base 47
theorem ok_House_init (T : Tx P K mg base) (d : Dh K s_House_init) (O_letters_in : T_letters_in P w K mg base) : T_House_init P w K mg base := by
  refine mkMkH d sc_House_init (fun _ _ _ _ _ _ us hl => match us, hl with | [_, _], _ => rfl) fun f cdv A outer s H E hr => ?_
  have nd := sc_House_init.nd
  refine ⟨_, (pss_cons (ps_set (i := 2) nd rfl (Or.inl rfl) (pe_callO O_letters_in (hr.mono (by decide)) (by rfl) (pa_cons (pv 1) pa_nil)))
      (pss_cons (ps_if (pt_cmp (pc_isN (pv 2))) pss_never pss_nil)
      (pss_cons (ps_fld (pv 0) (pv 2) rfl)
      (pss_one (ps_fld (pv 0) (pe_callB (call_lenK (K := K) rfl) (by rfl) T.len bt_len (pa_cons (pe_ix (ix_listK (K := K) rfl) (pv 2) pe_int (fun _ _ => rfl)) pa_nil)) rfl))))), ?_⟩
  rintro vs H Q ⟨x, dx, l, v, G, rfl, hx, gx, sm, r, c, k⟩
  have start : Stt G H (fun _ => True) (.im (rRef x) () :: .im rN3 v :: nos 1) (L2.start N_House_init [.ref x, l]) H :=
    ⟨G, Step.refl sm, trivial, Ini.ty (.cons rfl (.cons r (.nil 1))) (by simp [nos_len, N_House_init])⟩
  suffices h : Sg G H (fun _ => True) (.im (rRef x) () :: .im rN3 v :: nos 1) _ { nx := fun _ H' => Q .non H', rt := Q } from h _ _ start
  refine sg_seq (sg_asg up_true (eg_call1 (eg_var 1 rfl) c) (nx_go ?_))
  refine sg_seq (sg_ifF (b := (m_letters_in v).isNone) up_true (tg_B (eg_isN nn_L (eg_var 2 rfl))) rfl (sg_next (nx_go ?_)))
  rintro σ H1 ⟨G1, p1, _, ty⟩
  have hx1 : H1 x = some (.ins CH dx []) := p1.h _ _ hx
  have gx1 : G1 x = none := p1.f x (by rw [hx]; exact fun z => nomatch z) gx
  unfold tSeq sFld
  refine (eg_var 2 rfl : EG _ (tVar 2) (rO rTs) (some (v.map ratT))) H σ G1 H1 _ p1.h p1.s ty fun l1 G2 H2 p2 r2 => ?_
  refine eg_var 0 rfl H σ G2 H2 _ (p1.h.trans p2.h) p2.s (ty.step p2) fun u G3 H3 p3 r3 => ?_
  obtain rfl : u = .ref x := r3
  have hx3 : H3 x = some (.ins CH dx []) := p3.h _ _ (p2.h _ _ hx1)
  have gx3 : G3 x = none := p3.f x (by rw [p2.h _ _ hx1]; exact fun z => nomatch z) (p2.f x (by rw [hx1]; exact fun z => nomatch z) gx1)
  refine ⟨x, CH, dx, [], rfl, hx3, T.clH, T.nlH, by decide, ?_⟩
  have ty3 := (ty.step p2).step p3
  have r4 : rTs.rel G3 l1 (v.map ratT) := rTs.mono p3.g r2
  have sg4 : Same G3 (upd H3 x (.ins CH dx (putF "own_letters" l1 []))) := same_out p3.s gx3
  have ty4 : Ty (upd H3 x (.ins CH dx (putF "own_letters" l1 []))) (.im (rRef x) () :: .im rN3 v :: .im (rO rTs) (some (v.map ratT)) :: []) σ G3 (upd H3 x (.ins CH dx (putF "own_letters" l1 []))) := by
    refine ⟨ty3.len, fun i => ?_, fun i j l hi => ?_⟩
    · have q := ty3.at_ i
      match i with
      | 0 => exact q
      | 1 => exact q
      | 2 => exact q
      | i + 3 => exact trivial
    · match i with
      | 0 => cases hi
      | 1 => cases hi
      | 2 => cases hi
      | i + 3 => cases hi
  have h0 : v.length ≠ 0 := by have := c.1; omega
  have e1 : (atL (v.map ratT) 0).length = (v.headD []).length := by
    cases v with
    | nil => exact absurd rfl h0
    | cons x xs => simp [atL, ratT]
  have hat : L2.atI (v.map ratT) 0 = some (atL (v.map ratT) 0) := atL_at (by decide) (by simp; omega)
  dsimp only
  refine eg_len (eg_ix (eg_unsome (eg_var 2 rfl)) eg_int hat) _ σ G3 _ _ (Same.refl _) sg4 ty4 fun u G5 H5 p5 r5 => ?_
  obtain rfl : u = .int ((atL (v.map ratT) 0).length : Int) := r5
  refine eg_var 0 rfl _ σ G5 H5 _ p5.h p5.s (ty4.step p5) fun u G6 H6 p6 r6 => ?_
  obtain rfl : u = .ref x := r6
  have nx3 : (upd H3 x (HO.ins CH dx (putF "own_letters" l1 []))) x ≠ none := by rw [upd_same]; exact fun z => nomatch z
  have hx5 := p5.h _ _ (upd_same (H := H3) (a := x) (o := .ins CH dx (putF "own_letters" l1 [])))
  have hx6 := p6.h _ _ hx5
  have gx6 : G6 x = none := p6.f x (by rw [hx5]; exact fun z => nomatch z) (p5.f x nx3 gx3)
  refine ⟨x, CH, dx, _, rfl, hx6, T.clH, T.nwH, by simp [putF], ?_⟩
  have back : ∀ b, b ≠ x → ∀ o, H3 b = some o → (upd H3 x (HO.ins CH dx (putF "own_letters" l1 []))) b = some o := fun b nb o e => by rw [upd_ne nb]; exact e
  refine k G6 _ l1 (((p1.g.trans p2.g).trans p3.g).trans (p5.g.trans p6.g)) (same_out p6.s gx6) gx6 (fun b h1 h2 => ?_) (fun b o nb e => ?_) (rTs.mono (p5.g.trans p6.g) r4) ?_
  · have a1 := p1.f b h1 h2
    have b1 := same_some p1.h h1
    have a2 := p2.f b b1 a1
    have b2 := same_some p2.h b1
    have a3 := p3.f b b2 a2
    have b3 := same_some p3.h b2
    have b4 : (upd H3 x (HO.ins CH dx (putF "own_letters" l1 []))) b ≠ none := by
      by_cases hb : b = x
      · rw [hb]; exact nx3
      · rw [upd_ne hb]; exact b3
    exact p6.f b (same_some p5.h b4) (p5.f b b4 a3)
  · rw [upd_ne nb]
    exact p6.h _ _ (p5.h _ _ (back b nb o (p3.h _ _ (p2.h _ _ (p1.h _ _ e)))))
  · rw [upd_same, e1]
    rfl
abbrev s_want_house : Stmt := (topS 62)
abbrev N_want_house : List Str := ["value"]
theorem sc_want_house : FnScope N_want_house ["value"] (defScope s_want_house) := ⟨rfl, rfl, rfl, by decide +kernel, rfl, by decide +kernel, by decide +kernel⟩
abbrev T_want_house (P : Program) (w : World) (K : PySem.W.Frag) (mg : Str → Option Value) (base : Heap) : Prop := Ok P w K mg base "want_house" 41 ["value"] (sp1 rH A_want_house rH m_want_house)
theorem ok_want_house (T : Tx P K mg base) (d : Df K mg "want_house" s_want_house) : T_want_house P w K mg base := by
  refine mkOk d sc_want_house (fun _ _ _ _ _ _ us hl => match us, hl with | [_], _ => rfl) len1 fun f cdv A outer s H E hr => ?_
  have nd := sc_want_house.nd
  refine ⟨_, (pss_cons (ps_if (pt_not (pt_val (pe_callB (call_isiK' (K := K) rfl) (by rfl) T.isinstance bt_isinstance (pa_cons (pv 0) (pa_cons (pe_glob (v := .ref CH) (by rfl) T.g_House rfl) pa_nil))))) pss_never pss_nil)
      (pss_one (ps_ret (pv 0)))), fin1 (n := 0) rfl ?_⟩
  intro h G H Q c k
  refine sg_seq (sg_ifF up_true (tg_not (tg_B (eg_isH T (eg_var 0 rfl)))) rfl (sg_next (nx_go ?_)))
  exact sg_out (eg_var 0 rfl) k rfl
abbrev s_house_of : Stmt := (topS 63)
abbrev N_house_of : List Str := ["letters"]
theorem sc_house_of : FnScope N_house_of ["letters"] (defScope s_house_of) := ⟨rfl, rfl, rfl, by decide +kernel, rfl, by decide +kernel, by decide +kernel⟩
abbrev T_house_of (P : Program) (w : World) (K : PySem.W.Frag) (mg : Str → Option Value) (base : Heap) : Prop := Ok P w K mg base "house_of" 49 ["letters"] (sp1 (rL (rL (rL rQ))) A_house_of rH m_house_of)
theorem ok_house_of (T : Tx P K mg base) (d : Df K mg "house_of" s_house_of) (MH : MkH P w K mg base 47) : T_house_of P w K mg base := by
  refine mkOk d sc_house_of (fun _ _ _ _ _ _ us hl => match us, hl with | [_], _ => rfl) len1 fun f cdv A outer s H E hr => ?_
  have nd := sc_house_of.nd
  refine ⟨_, (pss_one (ps_ret (pe_mkH MH T.g_House (hr.mono (by decide)) (by rfl) (pa_cons (pv 0) pa_nil)))), fin1 (n := 0) rfl ?_⟩
  intro ls G H Q c k
  exact sg_out (eg_mkH ((eg_var 0 rfl).as fun G v r => asN_rel r) c) k rfl
abbrev s_want_pair : Stmt := (topS 67)
abbrev N_want_pair : List Str := ["house", "other", "here", "there"]
theorem sc_want_pair : FnScope N_want_pair ["house", "other"] (defScope s_want_pair) := ⟨rfl, rfl, rfl, by decide +kernel, rfl, by decide +kernel, by decide +kernel⟩
abbrev T_want_pair (P : Program) (w : World) (K : PySem.W.Frag) (mg : Str → Option Value) (base : Heap) : Prop := Ok P w K mg base "want_pair" 42 ["house", "other"] (sp2 rH rH A_want_pair (rP rH rH) m_want_pair)
theorem ok_want_pair (T : Tx P K mg base) (d : Df K mg "want_pair" s_want_pair) (O_want_house : T_want_house P w K mg base) : T_want_pair P w K mg base := by
  refine mkOk d sc_want_pair (fun _ _ _ _ _ _ us hl => match us, hl with | [_, _], _ => rfl) len2 fun f cdv A outer s H E hr => ?_
  have nd := sc_want_pair.nd
  refine ⟨_, (pss_cons (ps_set (i := 2) nd rfl (Or.inl rfl) (pe_callO O_want_house (hr.mono (by decide)) (by rfl) (pa_cons (pv 0) pa_nil)))
      (pss_cons (ps_set (i := 3) nd rfl (Or.inl rfl) (pe_callO O_want_house (hr.mono (by decide)) (by rfl) (pa_cons (pv 1) pa_nil)))
      (pss_cons (ps_if (pt_cmpR op_ne (pe_callB (call_lenK (K := K) rfl) (by rfl) T.len bt_len (pa_cons (pe_fldK (K := K) rfl (pv 2) rfl) pa_nil)) (pe_callB (call_lenK (K := K) rfl) (by rfl) T.len bt_len (pa_cons (pe_fldK (K := K) rfl (pv 3) rfl) pa_nil)) (nomark _)) pss_never pss_nil)
      (pss_one (ps_ret (pe_tup (pa_cons (pv 2) (pa_cons (pv 3) pa_nil)))))))), fin2 (n := 2) rfl ?_⟩
  intro h o G H Q c k
  refine sg_seq (sg_asg up_true (eg_call1 (eg_var 0 rfl) trivial) (nx_go ?_))
  refine sg_seq (sg_asg up_true (eg_call1 (eg_var 1 rfl) trivial) (nx_go ?_))
  refine sg_seq (sg_ifF up_true (tg_val (eg_ne (eg_len (eg_letters T.clH T.nlH (eg_var 2 rfl))) (eg_len (eg_letters T.clH T.nlH (eg_var 3 rfl))))) (by
    unfold A_want_pair at c
    simp [c]) (sg_next (nx_go ?_)))
  exact sg_out (eg_tup (eg_var 2 rfl) (eg_var 3 rfl)) k rfl
abbrev s_on_line : Stmt := (topS 68)
abbrev N_on_line : List Str := ["table", "other", "found", "row"]
theorem sc_on_line : FnScope N_on_line ["table", "other"] (defScope s_on_line) := ⟨rfl, rfl, rfl, by decide +kernel, rfl, by decide +kernel, by decide +kernel⟩
abbrev T_on_line (P : Program) (w : World) (K : PySem.W.Frag) (mg : Str → Option Value) (base : Heap) : Prop := Ok P w K mg base "on_line" 44 ["table", "other"] (sp2 (rL (rL rQ)) (rL (rL rQ)) A_on_line (rL (rL rQ)) m_on_line)
theorem ok_on_line (T : Tx P K mg base) (d : Df K mg "on_line" s_on_line) (MQ : MkQ P w K mg base 42) : T_on_line P w K mg base := by
  refine mkOk d sc_on_line (fun _ _ _ _ _ _ us hl => match us, hl with | [_, _], _ => rfl) len2 fun f cdv A outer s H E hr => ?_
  have nd := sc_on_line.nd
  refine ⟨_, (pss_cons (ps_setLc (own := [("row", 3)]) (g := gName 3) (tt := tYes) (i := 2) rfl nd rfl rfl (sw_true rfl rfl rfl (by kernel_rfl)) (pi_listK (K := K) rfl (pv 0)) (blkOk_by (by kernel_rfl)) (fun _ _ _ _ _ => (pg_name (i := 3) nd rfl (by first | exact Or.inl rfl | exact Or.inr rfl))) (fun _ _ _ _ _ => pts_nil) (fun _ _ _ _ _ => (pe_op op_cat (pv 3) (pe_op op_rep (pe_lst (pa_cons (pe_mkQ1 MQ T.g_Ratio (hr.mono (by decide)) (by rfl) (pa_cons pe_int pa_nil)) pa_nil)) (pe_callB (call_lenK (K := K) rfl) (by rfl) T.len bt_len (pa_cons (pv 1) pa_nil))))))
      (pss_one (ps_ret (pe_op op_cat (pv 2) (pe_lc (own := [("row", 3)]) (g := gName 3) (tt := tYes) rfl nd (pi_listK (K := K) rfl (pv 1)) (blkOk_by (by kernel_rfl)) (fun _ _ _ _ _ => (pg_name (i := 3) nd rfl (by first | exact Or.inl rfl | exact Or.inr rfl))) (fun _ _ _ _ _ => pts_nil) (fun _ _ _ _ _ => (pe_op op_cat (pe_op op_rep (pe_lst (pa_cons (pe_mkQ1 MQ T.g_Ratio (hr.mono (by decide)) (by rfl) (pa_cons pe_int pa_nil)) pa_nil)) (pe_callB (call_lenK (K := K) rfl) (by rfl) T.len bt_len (pa_cons (pv 0) pa_nil))) (pv 3)))))))), fin2 (n := 2) rfl ?_⟩
  intro t o G H Q c k
  obtain ⟨c1, c2, c3, c4⟩ := c
  have zero : (0 : Rat) = Rat.divInt 0 1 := (rat_int 0).symm
  refine sg_seq (sg_asg up_true (en_lc (f := fun r => r ++ List.replicate o.length (0 : Rat)) (ig_list (eg_var 0 rfl)) (by decide) (fun n r hr => ⟨_, gt_name (by decide), ((en_cat (eg_var 3 rfl) (en_rep (en_lst (er_cons ((eg_mkQ1 eg_int).cast zero.symm) er_nil) (show 1 < big by decide)).eg (eg_len (eg_var 1 rfl)) (by omega) (by omega)).eg ?_).eg).cast ?_⟩)).eg (nx_go ?_))
  · have := c3 r (mem_of_at hr)
    rw [List.length_replicate]
    unfold big
    omega
  · rw [Int.toNat_natCast]
  · refine sg_out (en_cat (eg_var 2 rfl) (en_lc (f := fun r => List.replicate t.length (0 : Rat) ++ r) (ig_list (eg_var 1 rfl)) (by decide) (fun n r hr => ⟨_, gt_name (by decide), ((en_cat (en_rep (en_lst (er_cons ((eg_mkQ1 eg_int).cast zero.symm) er_nil) (show 1 < big by decide)).eg (eg_len (eg_var 0 rfl)) (by omega) (by omega)).eg (eg_var 3 rfl) ?_).eg).cast ?_⟩)).eg ?_).eg k rfl
    · have := c4 r (mem_of_at hr)
      rw [List.length_replicate]
      unfold big
      omega
    · rw [Int.toNat_natCast]
    · rw [List.length_map, List.length_map]
      unfold big
      omega
abbrev s_side : Stmt := (topS 69)
abbrev N_side : List Str := ["house", "other", "here", "there", "table", "late"]
theorem sc_side : FnScope N_side ["house", "other"] (defScope s_side) := ⟨rfl, rfl, rfl, by decide +kernel, rfl, by decide +kernel, by decide +kernel⟩
abbrev T_side (P : Program) (w : World) (K : PySem.W.Frag) (mg : Str → Option Value) (base : Heap) : Prop := Ok P w K mg base "side" 50 ["house", "other"] (sp2 rH rH A_side rH m_side)
theorem ok_side (T : Tx P K mg base) (d : Df K mg "side" s_side) (O_want_pair : T_want_pair P w K mg base) (O_want_at_most : T_want_at_most P w K mg base) (O_house_of : T_house_of P w K mg base) (O_on_line : T_on_line P w K mg base) : T_side P w K mg base := by
  refine mkOk d sc_side (fun _ _ _ _ _ _ us hl => match us, hl with | [_, _], _ => rfl) len2 fun f cdv A outer s H E hr => ?_
  have nd := sc_side.nd
  refine ⟨_, (pss_cons (ps_asg (pe_callO O_want_pair (hr.mono (by decide)) (by rfl) (pa_cons (pv 0) (pa_cons (pv 1) pa_nil))) (pg_tupK (K := K) (n := 2) rfl rfl (pgs_cons (pg_name (i := 2) nd rfl (Or.inl rfl)) (pgs_cons (pg_name (i := 3) nd rfl (Or.inl rfl)) pgs_nil))))
      (pss_cons (ps_expr (pe_callO O_want_at_most (hr.mono (by decide)) (by rfl) (pa_cons pe_str (pa_cons (pe_globI (by rfl) T.n_MOST_SIZE_houses) (pa_cons (pe_op op_add (pe_fldK (K := K) rfl (pv 2) rfl) (pe_fldK (K := K) rfl (pv 3) rfl)) pa_nil)))))
      (pss_one (ps_ret (pe_callO O_house_of (hr.mono (by decide)) (by rfl) (pa_cons (pe_lc (own := [("table", 4), ("late", 5)]) (tt := tYes) rfl nd (pi_zipK (K := K) rfl (by rfl) T.zip (pa_cons (pe_fldK (K := K) rfl (pv 2) rfl) (pa_cons (pe_fldK (K := K) rfl (pv 3) rfl) pa_nil))) (blkOk_by (by kernel_rfl)) (fun _ _ _ _ _ => (pg_tupK (K := K) (n := 2) rfl rfl (pgs_cons (pg_name (i := 4) nd rfl (by first | exact Or.inl rfl | exact Or.inr rfl)) (pgs_cons (pg_name (i := 5) nd rfl (by first | exact Or.inl rfl | exact Or.inr rfl)) pgs_nil)))) (fun _ _ _ _ _ => pts_nil) (fun _ _ _ _ _ => (pe_callO O_on_line (hr.mono (by decide)) (by rfl) (pa_cons (pv 4) (pa_cons (pv 5) pa_nil))))) pa_nil)))))), fin2 (n := 4) rfl ?_⟩
  intro h o G H Q c k
  obtain ⟨c1, c2, c3, c4⟩ := c
  refine sg_seq (sg_pair up_true (eg_call2 (eg_var 0 rfl) (eg_var 1 rfl) c1) (nx_go ?_))
  refine sg_seq (sg_drop up_true (eg_call3 (R := rAny) (x := ()) (eg_c fun _ => trivial) eg_int (eg_add (eg_width T.clH T.nwH (eg_var 2 rfl)) (eg_width T.clH T.nwH (eg_var 3 rfl))) (by show (h.n : Int) + (o.n : Int) ≤ 4; omega)) (nx_go ?_))
  exact sg_out (eg_call1 (en_lc (f := fun p : Tab × Tab => m_on_line p.1 p.2) (ig_zip (eg_letters T.clH T.nlH (eg_var 2 rfl)) (eg_letters T.clH T.nlH (eg_var 3 rfl))) (by decide) (fun n p hp => ⟨_, gt_pair (gt_name (by decide)) (gt_name (by decide)), eg_call2 (eg_var 4 rfl) (eg_var 5 rfl) (c3 p (mem_of_at hp))⟩)).eg c4) k rfl
end
end TW
set_option Elab.async false
set_option linter.all false
set_option maxRecDepth 100000
set_option maxHeartbeats 4000000
namespace TW
open PySem PySem.Spec PyProof.Rows L2
abbrev rWd : RT Wd := rP (rL rI) rTs
theorem at_zero {α : Type} {x : α} {xs : List α} : L2.atI (x :: xs) 0 = some x := atI_of (n := 0) rfl
theorem left_take {steps : List (List Int)} {row s : List Int} {n : Nat} (h : steps[n]? = some s) : m_left_of (steps.take (n + 1)) row = m_cleared (m_left_of (steps.take n) row) s (m_head_of s) := by
  unfold m_left_of
  rw [take_succ' h, List.foldl_append]
  rfl
theorem take_fm_le {α β : Type} (f : α → List β) (xs : List α) : ∀ n : Nat, ((xs.take n).flatMap f).length ≤ (xs.flatMap f).length := by
  induction xs with
  | nil => intro n; simp
  | cons x xs ih =>
    intro n
    cases n with
    | zero => simp
    | succ n =>
      have := ih n
      simp only [List.take_succ_cons, List.flatMap_cons, List.length_append]
      omega
theorem letB_take {hs : List Hou} {w : Wd} {s : Bs} {ls : List Int} {m : Nat} {l : Int} (h : ls[m]? = some l) : letB hs w s (ls.take (m + 1)) = stepB hs (letB hs w s (ls.take m)) (w, l) := by
  unfold letB
  rw [take_succ' h, List.foldl_append]
  rfl
theorem wordsB_take {hs : List Hou} {s : Bs} {ws : List Wd} {n : Nat} {w : Wd} (h : ws[n]? = some w) : wordsB hs s (ws.take (n + 1)) = letB hs w (wordsB hs s (ws.take n)) (upto (manyB hs)) := by
  unfold wordsB
  rw [take_succ' h, List.foldl_append]
  rfl
theorem endB_ge (hs : List Hou) : ∀ f k, k ≤ endB hs f k
  | 0, k => Nat.le_refl _
  | f + 1, k => by
    unfold endB
    split
    · exact Nat.le_refl _
    · exact Nat.le_trans (Nat.le_succ _) (endB_ge hs f (k + 1))
theorem endB_le (hs : List Hou) (a : Nat) (he : (runB hs a).last = []) : ∀ f k, k ≤ a → ¬ a < endB hs f k
  | 0, k, hk => by
    unfold endB
    omega
  | f + 1, k, hk => by
    unfold endB
    by_cases h : (runB hs k).last.isEmpty = true
    · rw [if_pos h]
      omega
    · rw [if_neg h]
      rcases Nat.lt_or_ge k a with h1 | h1
      · exact endB_le hs a he f (k + 1) h1
      · have : k = a := by omega
        rw [this, he] at h
        exact absurd rfl h
section
variable {P : Program} {w : World} {K : PySem.W.Frag} {mg : Str → Option Value} {base : Heap}
abbrev s_long_ints : Stmt := (topS 71)
abbrev N_long_ints : List Str := ["table"]
theorem sc_long_ints : FnScope N_long_ints ["table"] (defScope s_long_ints) := ⟨rfl, rfl, rfl, by decide +kernel, rfl, by decide +kernel, by decide +kernel⟩
abbrev T_long_ints (P : Program) (w : World) (K : PySem.W.Frag) (mg : Str → Option Value) (base : Heap) : Prop := Ok P w K mg base "long_ints" 42 ["table"] (sp1 (rL (rL rQ)) A_long_ints (rL rI) m_long_ints)
theorem ok_long_ints (T : Tx P K mg base) (d : Df K mg "long_ints" s_long_ints) (O_wholes : T_wholes P w K mg base) (O_long_of : T_long_of P w K mg base) : T_long_ints P w K mg base := by
  refine mkOk d sc_long_ints (fun _ _ _ _ _ _ us hl => match us, hl with | [_], _ => rfl) len1 fun f cdv A outer s H E hr => ?_
  have nd := sc_long_ints.nd
  refine ⟨_, (pss_one (ps_ret (pe_ix (ix_tupK (K := K) rfl) (pe_callO O_wholes (hr.mono (by decide)) (by rfl) (pa_cons (pe_callO O_long_of (hr.mono (by decide)) (by rfl) (pa_cons (pv 0) pa_nil)) pa_nil)) pe_int (fun _ _ => rfl)))), fin1 (n := 0) rfl ?_⟩
  intro t G H Q c k
  exact sg_out (eg_snd (eg_call1 (eg_call1 (eg_var 0 rfl) c.1) c.2) eg_int) k rfl
abbrev s_left_of : Stmt := (topS 72)
abbrev N_left_of : List Str := ["steps", "row", "left", "step"]
theorem sc_left_of : FnScope N_left_of ["steps", "row"] (defScope s_left_of) := ⟨rfl, rfl, rfl, by decide +kernel, rfl, by decide +kernel, by decide +kernel⟩
abbrev T_left_of (P : Program) (w : World) (K : PySem.W.Frag) (mg : Str → Option Value) (base : Heap) : Prop := Ok P w K mg base "left_of" 44 ["steps", "row"] (sp2 (rL (rL rI)) (rL rI) A_left_of (rL rI) m_left_of)
theorem ok_left_of (T : Tx P K mg base) (d : Df K mg "left_of" s_left_of) (O_cleared : T_cleared P w K mg base) (O_head_of : T_head_of P w K mg base) : T_left_of P w K mg base := by
  refine mkOk d sc_left_of (fun _ _ _ _ _ _ us hl => match us, hl with | [_, _], _ => rfl) len2 fun f cdv A outer s H E hr => ?_
  have nd := sc_left_of.nd
  refine ⟨_, (pss_cons (ps_set (i := 2) nd rfl (Or.inl rfl) (pv 1))
      (pss_cons (ps_for PassesOwn.never rfl (pi_listK (K := K) rfl (pv 0)) (pg_name (i := 3) nd rfl (Or.inl rfl)) (pss_one (ps_set (i := 2) nd rfl (Or.inl rfl) (pe_callO O_cleared (hr.mono (by decide)) (by rfl) (pa_cons (pv 2) (pa_cons (pv 3) (pa_cons (pe_callO O_head_of (hr.mono (by decide)) (by rfl) (pa_cons (pv 3) pa_nil)) pa_nil)))))))
      (pss_one (ps_ret (pv 2))))), fin2 (n := 2) rfl ?_⟩
  intro steps row G H Q c k
  refine sg_seq (sg_asg up_true (eg_var 1 rfl) (nx_go ?_))
  refine sg_seq (sg_for up_true (ig_list (eg_var 0 rfl)) (fun n => [.im (rL (rL rI)) steps, .im (rL rI) row, .im (rL rI) (m_left_of (steps.take n) row), .no]) ⟨.inr rfl, .inr rfl, .inr rfl, .inl rfl, trivial⟩ (fun n a P' hu ha => ⟨_, gl_name, ?_⟩) ?_)
  · have e := left_take (row := row) ha
    exact sg_asg hu (eg_call3 (eg_var 2 rfl) (eg_var 3 rfl) (eg_call1 (eg_var 3 rfl) (c n a ha).1) (c n a ha).2) (nx_of rfl ⟨.inr rfl, .inr rfl, .inr (by rw [e]), .inl rfl, trivial⟩)
  · rw [List.take_length]
    exact sg_out (eg_var 2 rfl) k rfl
abbrev s_long_with : Stmt := (topS 73)
abbrev N_long_with : List Str := ["tables", "found", "table"]
theorem sc_long_with : FnScope N_long_with ["tables"] (defScope s_long_with) := ⟨rfl, rfl, rfl, by decide +kernel, rfl, by decide +kernel, by decide +kernel⟩
abbrev T_long_with (P : Program) (w : World) (K : PySem.W.Frag) (mg : Str → Option Value) (base : Heap) : Prop := Ok P w K mg base "long_with" 42 ["tables"] (sp1 (rL (rL (rL rQ))) A_long_with (rL rI) m_long_with)
theorem ok_long_with (T : Tx P K mg base) (d : Df K mg "long_with" s_long_with) (O_long_of : T_long_of P w K mg base) (O_wholes : T_wholes P w K mg base) : T_long_with P w K mg base := by
  refine mkOk d sc_long_with (fun _ _ _ _ _ _ us hl => match us, hl with | [_], _ => rfl) len1 fun f cdv A outer s H E hr => ?_
  have nd := sc_long_with.nd
  refine ⟨_, (pss_cons (ps_set (i := 1) nd rfl (Or.inl rfl) (pe_lst pa_nil))
      (pss_cons (ps_for PassesOwn.never rfl (pi_listK (K := K) rfl (pv 0)) (pg_name (i := 2) nd rfl (Or.inl rfl)) (pss_one (ps_expr (pe_bm PySem.F.plainAttrs_list PySem.F.slot_list_extend PySem.F.type_list_extend mt_extend (pv 1) (pa_cons (pe_callO O_long_of (hr.mono (by decide)) (by rfl) (pa_cons (pv 2) pa_nil)) pa_nil)))))
      (pss_one (ps_ret (pe_ix (ix_tupK (K := K) rfl) (pe_callO O_wholes (hr.mono (by decide)) (by rfl) (pa_cons (pv 1) pa_nil)) pe_int (fun _ _ => rfl)))))), fin1 (n := 2) rfl ?_⟩
  intro ts G H Q c k
  obtain ⟨c1, c2, c3⟩ := c
  refine sg_seq (sg_own up_true (by simp [nos]) (en_nil rQ) (nx_go ?_))
  refine sg_seq (sg_for up_true (ig_list (eg_var 0 rfl)) (fun n => [.im rTs ts, .own rQ ((ts.take n).flatMap m_long_of), .no]) ⟨.inr rfl, .inr rfl, .inl rfl, trivial⟩ (fun n a P' hu ha => ⟨_, gl_name, ?_⟩) ?_)
  · have e := map_flat_take m_long_of ha
    have le := take_fm_le m_long_of ts (n + 1)
    rw [e, List.length_append] at le
    exact sg_extend hu rfl (eg_call1 (eg_var 2 rfl) (c1 a (mem_of_at ha))) (by unfold big; omega) (nx_of rfl ⟨.inr rfl, .inr (by rw [e]), .inl rfl, trivial⟩)
  · rw [List.take_length]
    exact sg_freeze (n := 1) up_true rfl (sg_out (eg_snd (eg_call1 (eg_var 1 rfl) c3) eg_int) k rfl)
abbrev s_base_with : Stmt := (topS 74)
abbrev N_base_with : List Str := ["houses", "last", "found", "rows", "longer", "word", "tables", "letter", "late", "row", "house", "table"]
theorem sc_base_with : FnScope N_base_with ["houses"] (defScope s_base_with) := ⟨rfl, rfl, rfl, by decide +kernel, rfl, by decide +kernel, by decide +kernel⟩
abbrev T_base_with (P : Program) (w : World) (K : PySem.W.Frag) (mg : Str → Option Value) (base : Heap) : Prop := Ok P w K mg base "base_with" 46 ["houses"] (sp1 (rL rH) A_base_with (rL (rP (rL rI) (rL (rL (rL rQ))))) m_base_with)
theorem ok_base_with (T : Tx P K mg base) (d : Df K mg "base_with" s_base_with) (O_idle_of : T_idle_of P w K mg base) (O_long_with : T_long_with P w K mg base) (O_product_of : T_product_of P w K mg base) (O_left_of : T_left_of P w K mg base) (O_bare_row : T_bare_row P w K mg base) : T_base_with P w K mg base := by
  refine mkOk d sc_base_with (fun _ _ _ _ _ _ us hl => match us, hl with | [_], _ => rfl) len1 fun f cdv A outer s H E hr => ?_
  have nd := sc_base_with.nd
  refine ⟨_, (pss_cons (ps_set (i := 1) nd rfl (Or.inl rfl) (pe_lst (pa_cons (pe_tup (pa_cons (pe_lst pa_nil) (pa_cons (pe_lc (own := [("house", 10)]) (g := gName 10) (tt := tYes) rfl nd (pi_listK (K := K) rfl (pv 0)) (blkOk_by (by kernel_rfl)) (fun _ _ _ _ _ => (pg_name (i := 10) nd rfl (by first | exact Or.inl rfl | exact Or.inr rfl))) (fun _ _ _ _ _ => pts_nil) (fun _ _ _ _ _ => (pe_callO O_idle_of (hr.mono (by decide)) (by rfl) (pa_cons (pe_fldK (K := K) rfl (pv 10) rfl) pa_nil)))) pa_nil))) pa_nil)))
      (pss_cons (ps_par (i := 2) (j := 3) rfl nd rfl rfl (by decide) rfl rfl (pa_cons (pe_callTy (call_listK (K := K) rfl) (by rfl) T.list bt_list (pa_cons (pv 1) pa_nil)) (pa_cons (pe_lst (pa_cons (pe_callO O_long_with (hr.mono (by decide)) (by rfl) (pa_cons (pe_ix (ix_tupK (K := K) rfl) (pe_ix (ix_listK (K := K) rfl) (pv 1) pe_int (fun _ _ => rfl)) pe_int (fun _ _ => rfl)) pa_nil)) pa_nil)) pa_nil)) (by rfl))
      (pss_cons (ps_while PassesOwn.never (pt_cmpR (op_neE hr.lines) (pv 1) (pe_lst pa_nil) (nomark _)) (pss_cons (ps_set (i := 4) nd rfl (Or.inl rfl) (pe_lst pa_nil))
      (pss_cons (ps_for PassesOwn.never rfl (pi_listK (K := K) rfl (pv 1)) (pg_tupK (K := K) (n := 2) rfl rfl (pgs_cons (pg_name (i := 5) nd rfl (Or.inl rfl)) (pgs_cons (pg_name (i := 6) nd rfl (Or.inl rfl)) pgs_nil))) (pss_one (ps_for PassesOwn.never rfl (pi_range1 (by rfl) T.range (pa_cons (pe_callB (call_lenK (K := K) rfl) (by rfl) T.len bt_len (pa_cons (pe_fldK (K := K) rfl (pe_ix (ix_listK (K := K) rfl) (pv 0) pe_int (fun _ _ => rfl)) rfl) pa_nil)) pa_nil)) (pg_name (i := 7) nd rfl (Or.inr rfl)) (pss_cons (ps_setLc (own := [("table", 11), ("house", 10)]) (tt := tYes) (i := 8) rfl nd rfl rfl (sw_true rfl rfl rfl (by kernel_rfl)) (pi_zipK (K := K) rfl (by rfl) T.zip (pa_cons (pv 6) (pa_cons (pv 0) pa_nil))) (blkOk_by (by kernel_rfl)) (fun _ _ _ _ _ => (pg_tupK (K := K) (n := 2) rfl rfl (pgs_cons (pg_name (i := 11) nd rfl (by first | exact Or.inl rfl | exact Or.inr rfl)) (pgs_cons (pg_name (i := 10) nd rfl (by first | exact Or.inl rfl | exact Or.inr rfl)) pgs_nil)))) (fun _ _ _ _ _ => pts_nil) (fun _ _ _ _ _ => (pe_callO O_product_of (hr.mono (by decide)) (by rfl) (pa_cons (pv 11) (pa_cons (pe_ix (ix_listK (K := K) rfl) (pe_fldK (K := K) rfl (pv 10) rfl) (pv 7) (fun _ _ => rfl)) pa_nil)))))
      (pss_cons (ps_set (i := 9) nd rfl (Or.inl rfl) (pe_callO O_left_of (hr.mono (by decide)) (by rfl) (pa_cons (pv 3) (pa_cons (pe_callO O_long_with (hr.mono (by decide)) (by rfl) (pa_cons (pv 8) pa_nil)) pa_nil))))
      (pss_one (ps_if (pt_val (pe_callB (cr_anyI (K := K) rfl rfl) (by rfl) T.any bt_any (pa_cons (pv 9) pa_nil))) (pss_cons (ps_expr (pe_bm PySem.F.plainAttrs_list PySem.F.slot_list_append PySem.F.type_list_append mt_append (pv 3) (pa_cons (pe_callO O_bare_row (hr.mono (by decide)) (by rfl) (pa_cons (pv 9) pa_nil)) pa_nil)))
      (pss_one (ps_expr (pe_bm PySem.F.plainAttrs_list PySem.F.slot_list_append PySem.F.type_list_append mt_append (pv 4) (pa_cons (pe_tup (pa_cons (pe_op op_cat (pv 5) (pe_lst (pa_cons (pv 7) pa_nil))) (pa_cons (pv 8) pa_nil))) pa_nil))))) pss_nil)))))))
      (pss_one (ps_par (i := 2) (j := 1) rfl nd rfl rfl (by decide) rfl rfl (pa_cons (pe_op op_cat (pv 2) (pv 4)) (pa_cons (pv 4) pa_nil)) (by rfl))))))
      (pss_one (ps_ret (pv 2)))))), fin1 (n := 11) rfl ?_⟩
  intro hs G H Q c k
  obtain ⟨c1, c2, c3, c4, c5, c6⟩ := c
  obtain ⟨hd, tl, rfl⟩ := List.exists_cons_of_ne_nil c1
  generalize hhs : hd :: tl = hs at *
  have at0' : L2.atI hs 0 = some hd := by rw [← hhs]; exact at_zero
  have many : manyB hs = hd.ls.length := by rw [← hhs]; rfl
  refine sg_seq (sg_asg up_true (en_lst (er_cons (eg_tup (en_nil rI).eg (en_lc (f := fun h : Hou => m_idle_of (h.n : Int)) (ig_list (eg_var 0 rfl)) (by decide) (fun n h hh => ⟨_, gt_name (by decide), eg_call1 (eg_width T.clH T.nwH (eg_var 10 rfl)) (c2 h (mem_of_at hh))⟩)).eg) er_nil) (show 1 < big by decide)).eg (nx_go ?_))
  refine sg_seq (sg_parO up_true (by simp [st, nos]) (en_list (eg_var 1 rfl)).eg (en_lst (er_cons (eg_call1 (eg_snd (eg_ix (eg_var 1 rfl) eg_int at_zero) eg_int) c3) er_nil) (show 1 < big by decide)) (nx_go ?_))
  have bound : ∀ a : Nat, a ≤ endB hs 20 0 → (!(runB hs a).last.isEmpty) = true → a < endB hs 20 0 := fun a h1 h2 => by
    rcases Nat.lt_or_ge a (endB hs 20 0) with h | h
    · exact h
    · have : a = endB hs 20 0 := by omega
      rw [this, c6] at h2
      cases h2
  refine sg_seq (sg_while up_true { a : Nat // a ≤ endB hs 20 0 ∧ ∀ j, j < a → (runB hs j).last ≠ [] } (fun a => [.im (rL rH) hs, .im (rL rWd) (runB hs a.1).last, .im (rL rWd) (runB hs a.1).found, .own (rL rI) (runB hs a.1).rows, .no, .no, .no, .no, .no, .no, .no, .no]) (fun a => endB hs 20 0 - a.1) ⟨0, Nat.zero_le _, fun j hj => absurd hj (Nat.not_lt_zero _)⟩
    ⟨.inr rfl, .inr rfl, .inr rfl, .inr rfl, .inl rfl, .inl rfl, .inl rfl, .inl rfl, .inl rfl, .inl rfl, .inl rfl, .inl rfl, trivial⟩ fun a => ⟨!(runB hs a.1).last.isEmpty, tg_val (eg_neE (eg_var 1 rfl)), fun hb => ?_, fun hb => ?_⟩)
  · obtain ⟨a, ha, hbef⟩ := a
    have hlt := bound a ha hb
    have hne : (runB hs a).last ≠ [] := fun z => by
      simp only at hb
      rw [z] at hb
      cases hb
    refine ⟨⟨a + 1, hlt, fun j hj => ?_⟩, by show endB hs 20 0 - (a + 1) < endB hs 20 0 - a; omega, ?_⟩
    · rcases Nat.lt_or_ge j a with h | h
      · exact hbef j h
      · have : j = a := by omega
        rw [this]
        exact hne
    · obtain ⟨d1, d2⟩ := c5 a
      have eS : runB hs (a + 1) = growB hs (runB hs a) := rfl
      refine sg_seq (sg_own up_true (by simp [nos]) (en_nil rWd) (nx_go ?_))
      refine sg_seq (sg_for up_true (ig_list (eg_var 1 rfl)) (fun n => [.im (rL rH) hs, .im (rL rWd) (runB hs a).last, .im (rL rWd) (runB hs a).found, .own (rL rI) (wordsB hs ((runB hs a).rows, []) ((runB hs a).last.take n)).1, .own rWd (wordsB hs ((runB hs a).rows, []) ((runB hs a).last.take n)).2, .no, .no, .no, .no, .no, .no, .no])
        ⟨.inr rfl, .inr rfl, .inr rfl, .inr rfl, .inr rfl, .inl rfl, .inl rfl, .inl rfl, .inl rfl, .inl rfl, .inl rfl, .inl rfl, trivial⟩ (fun n wd P' hu hwd => ⟨_, gl_pair, ?_⟩) ?_)
      · have e1 := wordsB_take (hs := hs) (s := ((runB hs a).rows, [])) hwd
        have d3 := d2 n wd hwd
        generalize hB : wordsB hs ((runB hs a).rows, []) ((runB hs a).last.take n) = B at *
        refine sg_for hu (ig_range (n := (hd.ls.length : Int)) (eg_len (eg_letters T.clH T.nlH (eg_ix (eg_var 0 rfl) eg_int at0'))) (by omega) (by omega)) (fun m => [.im (rL rH) hs, .im (rL rWd) (runB hs a).last, .im (rL rWd) (runB hs a).found, .own (rL rI) (letB hs wd B ((upto (manyB hs)).take m)).1, .own rWd (letB hs wd B ((upto (manyB hs)).take m)).2, .im (rL rI) wd.1, .im rTs wd.2, .no, .no, .no, .no, .no])
          ⟨.inr rfl, .inr rfl, .inr rfl, .inr rfl, .inr rfl, .inr rfl, .inr rfl, .inl rfl, .inl rfl, .inl rfl, .inl rfl, .inl rfl, trivial⟩ (fun m l P2 hu2 hl => ⟨_, gl_name, ?_⟩) ?_
        · have hl' : (upto (manyB hs))[m]? = some l := by rw [many]; exact hl
          have e2 := letB_take (hs := hs) (w := wd) (s := B) hl'
          obtain ⟨f1, f2, f3, f4, f5, f6, f7⟩ := d3 m l hl'
          generalize hC : letB hs wd B ((upto (manyB hs)).take m) = C at *
          refine sg_seq (sg_asg hu2 (en_lc (f := fun p : Tab × Hou => m_product_of p.1 (letterAt p.2 l)) (ig_zip (eg_var 6 rfl) (eg_var 0 rfl)) (by decide) (fun i p hp => ⟨_, gt_pair (gt_name (by decide)) (gt_name (by decide)), eg_call2 (eg_var 11 rfl) (eg_ix (eg_letters T.clH T.nlH (eg_var 10 rfl)) (eg_var 7 rfl) (atL_at (f1 p (mem_of_at hp)).1.1 (f1 p (mem_of_at hp)).1.2)) (f1 p (mem_of_at hp)).2⟩)).eg (nx_go ?_))
          refine sg_seq (sg_asg hu2 (eg_callO2 (n := 3) rfl f6 (eg_call1 (eg_var 8 rfl) f2) f3) (nx_go ?_))
          refine sg_if (b := (m_left_of C.1 (m_long_with (lateOf hs wd.2 l))).any fun x => decide (x ≠ 0)) hu2 (tg_B (eg_anyI (eg_var 9 rfl))) (fun h => ?_) (fun h => ?_)
          · have e3 : stepB hs C (wd, l) = (C.1 ++ [m_bare_row (m_left_of C.1 (m_long_with (lateOf hs wd.2 l)))], C.2 ++ [(wd.1 ++ [l], lateOf hs wd.2 l)]) := by
              unfold stepB putLate
              exact if_pos h
            rw [e3] at e2
            refine sg_seq (sg_append (n := 3) hu2 rfl (eg_call1 (eg_var 9 rfl) trivial) (by unfold big; omega) (nx_go ?_))
            refine sg_append (n := 4) hu2 rfl (eg_tup (en_cat (eg_var 5 rfl) (en_lst (er_cons (eg_var 7 rfl) er_nil) (show 1 < big by decide)).eg (show wd.1.length + 1 < big by have f8 : wd.1.length < 1000 := f7; unfold big; omega)).eg (eg_var 8 rfl)) (show C.2.length + 1 < big by unfold big; omega) (nx_of rfl ⟨.inr rfl, .inr rfl, .inr rfl, .inr (by rw [e2] <;> rfl), .inr (by rw [e2] <;> rfl), .inr rfl, .inr rfl, .inl rfl, .inl rfl, .inl rfl, .inl rfl, .inl rfl, trivial⟩)
          · have e3 : stepB hs C (wd, l) = C := by
              unfold stepB putLate
              exact if_neg (by rw [h]; decide)
            rw [e3] at e2
            exact sg_next (nx_of rfl ⟨.inr rfl, .inr rfl, .inr rfl, .inr (by rw [e2] <;> rfl), .inr (by rw [e2] <;> rfl), .inr rfl, .inr rfl, .inl rfl, .inl rfl, .inl rfl, .inl rfl, .inl rfl, trivial⟩)
        · rw [ints_len, Int.toNat_natCast, ← many, List.take_of_length_le (by rw [upto_len]; exact Nat.le_refl _)]
          exact nx_of rfl ⟨.inr rfl, .inr rfl, .inr rfl, .inr (by rw [e1]), .inr (by rw [e1]), .inl rfl, .inl rfl, .inl rfl, .inl rfl, .inl rfl, .inl rfl, .inl rfl, trivial⟩
      · rw [List.take_length]
        refine sg_freeze (n := 4) up_true rfl (sg_par up_true (en_cat (eg_var 2 rfl) (eg_var 4 rfl) (show (runB hs a).found.length + (wordsB hs ((runB hs a).rows, []) (runB hs a).last).2.length < big by unfold big; omega)).eg (eg_var 4 rfl) (nx_of rfl ⟨.inr rfl, .inr ?_, .inr ?_, .inr ?_, .inl rfl, .inl rfl, .inl rfl, .inl rfl, .inl rfl, .inl rfl, .inl rfl, .inl rfl, trivial⟩))
        · rw [eS]
          rfl
        · rw [eS]
          rfl
        · rw [eS]
          rfl
  · refine sg_out (eg_var 2 rfl) (k.cast ?_) rfl
    obtain ⟨a, ha, hbef⟩ := a
    have he : (runB hs a).last = [] := by
      simp only at hb
      cases h : (runB hs a).last with
      | nil => rfl
      | cons x xs => rw [h] at hb; cases hb
    have : a = endB hs 20 0 := by
      rcases Nat.lt_or_ge a (endB hs 20 0) with h | h
      · exact absurd h (endB_le hs a he 20 0 (Nat.zero_le _))
      · omega
    show m_base_with hs = (runB hs a).found
    unfold m_base_with
    rw [this]
abbrev s_base_of : Stmt := (topS 75)
abbrev N_base_of : List Str := ["house", "word", "tables"]
theorem sc_base_of : FnScope N_base_of ["house"] (defScope s_base_of) := ⟨rfl, rfl, rfl, by decide +kernel, rfl, by decide +kernel, by decide +kernel⟩
abbrev T_base_of (P : Program) (w : World) (K : PySem.W.Frag) (mg : Str → Option Value) (base : Heap) : Prop := Ok P w K mg base "base_of" 47 ["house"] (sp1 rH A_base_of (rL (rP (rL rI) (rL (rL rQ)))) m_base_of)
theorem ok_base_of (T : Tx P K mg base) (d : Df K mg "base_of" s_base_of) (O_base_with : T_base_with P w K mg base) : T_base_of P w K mg base := by
  refine mkOk d sc_base_of (fun _ _ _ _ _ _ us hl => match us, hl with | [_], _ => rfl) len1 fun f cdv A outer s H E hr => ?_
  have nd := sc_base_of.nd
  refine ⟨_, (pss_one (ps_ret (pe_lc (own := [("word", 1), ("tables", 2)]) (tt := tYes) rfl nd (pi_listK (K := K) rfl (pe_callO O_base_with (hr.mono (by decide)) (by rfl) (pa_cons (pe_lst (pa_cons (pv 0) pa_nil)) pa_nil))) (blkOk_by (by kernel_rfl)) (fun _ _ _ _ _ => (pg_tupK (K := K) (n := 2) rfl rfl (pgs_cons (pg_name (i := 1) nd rfl (by first | exact Or.inl rfl | exact Or.inr rfl)) (pgs_cons (pg_name (i := 2) nd rfl (by first | exact Or.inl rfl | exact Or.inr rfl)) pgs_nil)))) (fun _ _ _ _ _ => pts_nil) (fun _ _ _ _ _ => (pe_tup (pa_cons (pv 1) (pa_cons (pe_ix (ix_listK (K := K) rfl) (pv 2) pe_int (fun _ _ => rfl)) pa_nil))))))), fin1 (n := 2) rfl ?_⟩
  intro h G H Q c k
  exact sg_out (en_lc (f := fun p : Wd => (p.1, p.2.headD [])) (ig_list (eg_call1 (en_lst (er_cons (eg_var 0 rfl) er_nil) (show 1 < big by decide)).eg c.1)) (by decide) (fun n p hp => ⟨_, gt_pair (gt_name (by decide)) (gt_name (by decide)), eg_tup (eg_var 1 rfl) (eg_ix (eg_var 2 rfl) eg_int (by
    have := c.2 p (mem_of_at hp)
    cases hq : p.2 with
    | nil => exact absurd hq this
    | cons x xs => exact at_zero))⟩)).eg k rfl
abbrev s_int_lot : Stmt := (topS 76)
abbrev N_int_lot : List Str := ["house", "word", "table"]
theorem sc_int_lot : FnScope N_int_lot ["house"] (defScope s_int_lot) := ⟨rfl, rfl, rfl, by decide +kernel, rfl, by decide +kernel, by decide +kernel⟩
abbrev T_int_lot (P : Program) (w : World) (K : PySem.W.Frag) (mg : Str → Option Value) (base : Heap) : Prop := Ok P w K mg base "int_lot" 48 ["house"] (sp1 rH A_int_lot (rL (rL rI)) m_int_lot)
theorem ok_int_lot (T : Tx P K mg base) (d : Df K mg "int_lot" s_int_lot) (O_int_steps : T_int_steps P w K mg base) (O_base_of : T_base_of P w K mg base) (O_long_ints : T_long_ints P w K mg base) : T_int_lot P w K mg base := by
  refine mkOk d sc_int_lot (fun _ _ _ _ _ _ us hl => match us, hl with | [_], _ => rfl) len1 fun f cdv A outer s H E hr => ?_
  have nd := sc_int_lot.nd
  refine ⟨_, (pss_one (ps_ret (pe_callO O_int_steps (hr.mono (by decide)) (by rfl) (pa_cons (pe_lc (own := [("word", 1), ("table", 2)]) (tt := tYes) rfl nd (pi_listK (K := K) rfl (pe_callO O_base_of (hr.mono (by decide)) (by rfl) (pa_cons (pv 0) pa_nil))) (blkOk_by (by kernel_rfl)) (fun _ _ _ _ _ => (pg_tupK (K := K) (n := 2) rfl rfl (pgs_cons (pg_name (i := 1) nd rfl (by first | exact Or.inl rfl | exact Or.inr rfl)) (pgs_cons (pg_name (i := 2) nd rfl (by first | exact Or.inl rfl | exact Or.inr rfl)) pgs_nil)))) (fun _ _ _ _ _ => pts_nil) (fun _ _ _ _ _ => (pe_callO O_long_ints (hr.mono (by decide)) (by rfl) (pa_cons (pv 2) pa_nil)))) pa_nil)))), fin1 (n := 2) rfl ?_⟩
  intro h G H Q c k
  obtain ⟨c1, c2, c3⟩ := c
  have e : baseT h = (m_base_of h).map fun p => p.2 := rfl
  have e2 : (baseT h).map m_long_ints = (m_base_of h).map fun p => m_long_ints p.2 := by rw [e, List.map_map]; rfl
  refine sg_out (eg_call1 ((en_lc (f := fun p : List Int × Tab => m_long_ints p.2) (ig_list (eg_call1 (eg_var 0 rfl) c1)) (by decide) (fun n p hp => ⟨_, gt_pair (gt_name (by decide)) (gt_name (by decide)), eg_call1 (eg_var 2 rfl) (c2 p.2 (List.mem_map.mpr ⟨p, mem_of_at hp, rfl⟩))⟩)).eg.cast e2.symm) c3) k rfl
abbrev s_dimension : Stmt := (topS 77)
abbrev N_dimension : List Str := ["house"]
theorem sc_dimension : FnScope N_dimension ["house"] (defScope s_dimension) := ⟨rfl, rfl, rfl, by decide +kernel, rfl, by decide +kernel, by decide +kernel⟩
abbrev T_dimension (P : Program) (w : World) (K : PySem.W.Frag) (mg : Str → Option Value) (base : Heap) : Prop := Ok P w K mg base "dimension" 48 ["house"] (sp1 rH A_dimension rI m_dimension)
theorem ok_dimension (T : Tx P K mg base) (d : Df K mg "dimension" s_dimension) (O_base_of : T_base_of P w K mg base) (O_want_house : T_want_house P w K mg base) : T_dimension P w K mg base := by
  refine mkOk d sc_dimension (fun _ _ _ _ _ _ us hl => match us, hl with | [_], _ => rfl) len1 fun f cdv A outer s H E hr => ?_
  have nd := sc_dimension.nd
  refine ⟨_, (pss_one (ps_ret (pe_callB (call_lenK (K := K) rfl) (by rfl) T.len bt_len (pa_cons (pe_callO O_base_of (hr.mono (by decide)) (by rfl) (pa_cons (pe_callO O_want_house (hr.mono (by decide)) (by rfl) (pa_cons (pv 0) pa_nil)) pa_nil)) pa_nil)))), fin1 (n := 0) rfl ?_⟩
  intro h G H Q c k
  exact sg_out (eg_len (eg_call1 (eg_call1 (eg_var 0 rfl) trivial) c)) k rfl
abbrev s_every_table : Stmt := (topS 78)
abbrev N_every_table : List Str := ["house", "here"]
theorem sc_every_table : FnScope N_every_table ["house"] (defScope s_every_table) := ⟨rfl, rfl, rfl, by decide +kernel, rfl, by decide +kernel, by decide +kernel⟩
abbrev T_every_table (P : Program) (w : World) (K : PySem.W.Frag) (mg : Str → Option Value) (base : Heap) : Prop := Ok P w K mg base "every_table" 48 ["house"] (sp1 rH A_every_table rB m_every_table)
theorem ok_every_table (T : Tx P K mg base) (d : Df K mg "every_table" s_every_table) (O_want_house : T_want_house P w K mg base) (O_base_of : T_base_of P w K mg base) : T_every_table P w K mg base := by
  refine mkOk d sc_every_table (fun _ _ _ _ _ _ us hl => match us, hl with | [_], _ => rfl) len1 fun f cdv A outer s H E hr => ?_
  have nd := sc_every_table.nd
  refine ⟨_, (pss_cons (ps_set (i := 1) nd rfl (Or.inl rfl) (pe_callO O_want_house (hr.mono (by decide)) (by rfl) (pa_cons (pv 0) pa_nil)))
      (pss_one (ps_ret (pe_cmpR op_eq (pe_callB (call_lenK (K := K) rfl) (by rfl) T.len bt_len (pa_cons (pe_callO O_base_of (hr.mono (by decide)) (by rfl) (pa_cons (pv 1) pa_nil)) pa_nil)) (pe_op op_mulP (pe_fldK (K := K) rfl (pv 1) rfl) (pe_fldK (K := K) rfl (pv 1) rfl)) (nomark _))))), fin1 (n := 1) rfl ?_⟩
  intro h G H Q c k
  refine sg_seq (sg_asg up_true (eg_call1 (eg_var 0 rfl) trivial) (nx_go ?_))
  exact sg_out (eg_eq (eg_len (eg_call1 (eg_var 1 rfl) c.1)) (eg_mulP (eg_width T.clH T.nwH (eg_var 1 rfl)) (eg_width T.clH T.nwH (eg_var 1 rfl)) (sm_nat (by have := c.2; show h.n < 10000000; omega)) (sm_nat (by have := c.2; show h.n < 10000000; omega)))) k rfl
end
end TW
set_option Elab.async false
set_option linter.all false
set_option maxRecDepth 100000
set_option maxHeartbeats 4000000
namespace TW
open PySem PySem.Spec PyProof.Rows L2
theorem fm_len {α β : Type} (f : α → List β) (c : Nat) : ∀ xs : List α, (∀ x ∈ xs, (f x).length = c) → (xs.flatMap f).length = xs.length * c
  | [], _ => by simp
  | x :: xs, h => by
    have ih := fm_len f c xs fun y hy => h y (List.mem_cons_of_mem _ hy)
    rw [List.flatMap_cons, List.length_append, ih, h x (List.mem_cons_self ..), List.length_cons, Nat.succ_mul, Nat.add_comm]
theorem flat_len {β : Type} (c : Nat) (xs : List (List β)) (h : ∀ x ∈ xs, x.length = c) : xs.flatten.length = xs.length * c := by
  have := fm_len id c xs h
  rw [List.flatMap_id] at this
  exact this
theorem sq_len {t : Tab} {n : Nat} (h : sqT t n) : (m_long_of t).length = n * n := by
  unfold m_long_of
  rw [flat_len n t h.2, h.1]
theorem wholes_len (r : List Rat) : (m_wholes r).2.length = r.length := by simp [m_wholes]
theorem addAt_len (r : List Int) (i x : Int) : (addAt r i x).length = r.length := by simp [addAt]
theorem leadStep_len (here there : List Int) (n : Nat) (line place : Int) (row : List Int) (i : Int) : (leadStep here there n line place row i).length = row.length := by
  unfold leadStep
  rw [addAt_len, addAt_len]
theorem leadSteps_len (here there : List Int) (n : Nat) (line place : Int) : ∀ (is : List Int) (row : List Int), (is.foldl (leadStep here there n line place) row).length = row.length
  | [], _ => rfl
  | i :: is, row => by rw [List.foldl_cons, leadSteps_len here there n line place is, leadStep_len]
theorem ix_lt {n a b : Nat} (ha : a < n) (hb : b < n) : a * n + b < n * n := by
  have h1 : (a + 1) * n ≤ n * n := Nat.mul_le_mul_right n ha
  rw [Nat.succ_mul] at h1
  omega
theorem ix_in {n a b : Nat} (ha : a < n) (hb : b < n) : 0 ≤ (a : Int) * (n : Int) + (b : Int) ∧ ((a : Int) * (n : Int) + (b : Int)).toNat < n * n := by
  have e : (a : Int) * (n : Int) + (b : Int) = ((a * n + b : Nat) : Int) := by simp
  rw [e, Int.toNat_natCast]
  exact ⟨Int.natCast_nonneg _, ix_lt ha hb⟩
theorem lineRows_len (near far : Tab) (line : Int) : (lineRows near far line).length = near.length := by
  unfold lineRows
  rw [List.length_map, upto_len]
section
variable {P : Program} {w : World} {K : PySem.W.Frag} {mg : Str → Option Value} {base : Heap}
abbrev s_lead_rows : Stmt := (topS 80)
abbrev N_lead_rows : List Str := ["near", "far", "size", "numbers", "here", "there", "found", "line", "place", "row", "at"]
theorem sc_lead_rows : FnScope N_lead_rows ["near", "far"] (defScope s_lead_rows) := ⟨rfl, rfl, rfl, by decide +kernel, rfl, by decide +kernel, by decide +kernel⟩
abbrev T_lead_rows (P : Program) (w : World) (K : PySem.W.Frag) (mg : Str → Option Value) (base : Heap) : Prop := Ok P w K mg base "lead_rows" 42 ["near", "far"] (sp2 (rL (rL rQ)) (rL (rL rQ)) A_lead_rows (rL (rL rI)) m_lead_rows)
theorem ok_lead_rows (T : Tx P K mg base) (d : Df K mg "lead_rows" s_lead_rows) (O_wholes : T_wholes P w K mg base) (O_long_of : T_long_of P w K mg base) : T_lead_rows P w K mg base := by
  refine mkOk d sc_lead_rows (fun _ _ _ _ _ _ us hl => match us, hl with | [_, _], _ => rfl) len2 fun f cdv A outer s H E hr => ?_
  have nd := sc_lead_rows.nd
  refine ⟨_, (pss_cons (ps_set (i := 2) nd rfl (Or.inl rfl) (pe_callB (call_lenK (K := K) rfl) (by rfl) T.len bt_len (pa_cons (pv 0) pa_nil)))
      (pss_cons (ps_set (i := 3) nd rfl (Or.inl rfl) (pe_ix (ix_tupK (K := K) rfl) (pe_callO O_wholes (hr.mono (by decide)) (by rfl) (pa_cons (pe_op op_cat (pe_callO O_long_of (hr.mono (by decide)) (by rfl) (pa_cons (pv 0) pa_nil)) (pe_callO O_long_of (hr.mono (by decide)) (by rfl) (pa_cons (pv 1) pa_nil))) pa_nil)) pe_int (fun _ _ => rfl)))
      (pss_cons (ps_par (i := 4) (j := 5) rfl nd rfl rfl (by decide) rfl rfl (pa_cons (pe_slice (sl_listK (K := K) rfl) (pv 3) po_none (po_some (pe_op op_mulP (pv 2) (pv 2)))) (pa_cons (pe_slice (sl_listK (K := K) rfl) (pv 3) (po_some (pe_op op_mulP (pv 2) (pv 2))) po_none) pa_nil)) (by rfl))
      (pss_cons (ps_set (i := 6) nd rfl (Or.inl rfl) (pe_lst pa_nil))
      (pss_cons (ps_for PassesOwn.never rfl (pi_range1 (by rfl) T.range (pa_cons (pv 2) pa_nil)) (pg_name (i := 7) nd rfl (Or.inl rfl)) (pss_one (ps_for PassesOwn.never rfl (pi_range1 (by rfl) T.range (pa_cons (pv 2) pa_nil)) (pg_name (i := 8) nd rfl (Or.inl rfl)) (pss_cons (ps_set (i := 9) nd rfl (Or.inl rfl) (pe_op op_rep (pe_lst (pa_cons pe_int pa_nil)) (pe_op op_mulP (pv 2) (pv 2))))
      (pss_cons (ps_for PassesOwn.never rfl (pi_range1 (by rfl) T.range (pa_cons (pv 2) pa_nil)) (pg_name (i := 10) nd rfl (Or.inl rfl)) (pss_cons (ps_asg (pe_op op_add (pe_ix (ix_listK (K := K) rfl) (pv 9) (pe_op op_add (pe_op op_mulP (pv 10) (pv 2)) (pv 8)) (fun _ _ => rfl)) (pe_ix (ix_listK (K := K) rfl) (pv 4) (pe_op op_add (pe_op op_mulP (pv 7) (pv 2)) (pv 10)) (fun _ _ => rfl))) (pg_sub (pv 9) (pe_op op_add (pe_op op_mulP (pv 10) (pv 2)) (pv 8)) set_list))
      (pss_one (ps_asg (pe_op op_sub (pe_ix (ix_listK (K := K) rfl) (pv 9) (pe_op op_add (pe_op op_mulP (pv 7) (pv 2)) (pv 10)) (fun _ _ => rfl)) (pe_ix (ix_listK (K := K) rfl) (pv 5) (pe_op op_add (pe_op op_mulP (pv 10) (pv 2)) (pv 8)) (fun _ _ => rfl))) (pg_sub (pv 9) (pe_op op_add (pe_op op_mulP (pv 7) (pv 2)) (pv 10)) set_list)))))
      (pss_one (ps_expr (pe_bm PySem.F.plainAttrs_list PySem.F.slot_list_append PySem.F.type_list_append mt_append (pv 6) (pa_cons (pv 9) pa_nil)))))))))
      (pss_one (ps_ret (pv 6)))))))), fin2 (n := 9) rfl ?_⟩
  intro near far G H Q c k
  obtain ⟨c1, c2, c3, c4⟩ := c
  have s1 := sq_len c2
  have s2 := sq_len c3
  have full : (upto near.length).take near.length = upto near.length := List.take_of_length_le (by rw [upto_len]; exact Nat.le_refl _)
  have hn4 : near.length * near.length ≤ 16 := Nat.mul_le_mul c1 c1
  have hlen : (bothOf near far).length = near.length * near.length + near.length * near.length := by
    unfold bothOf
    rw [wholes_len, List.length_append, s1, s2]
  have smn : Sm (near.length : Int) := sm_nat (by omega)
  have tn : ((near.length : Int) * (near.length : Int)).toNat = near.length * near.length := by rw [← Int.natCast_mul, Int.toNat_natCast]
  have t0 : (0 : Int) ≤ (near.length : Int) * (near.length : Int) := by rw [← Int.natCast_mul]; exact Int.natCast_nonneg _
  have tl : (near.length : Int) * (near.length : Int) < 100000 := by rw [← Int.natCast_mul]; omega
  refine sg_seq (sg_asg up_true (eg_len (eg_var 0 rfl)) (nx_go ?_))
  refine sg_seq (sg_asg up_true (eg_snd (eg_call1 (en_cat (eg_call1 (eg_var 0 rfl) (by unfold A_long_of; unfold m_long_of at s1; omega)) (eg_call1 (eg_var 1 rfl) (by unfold A_long_of; unfold m_long_of at s2; omega)) (by rw [s1, s2]; unfold big; omega)).eg c4) eg_int) (nx_go ?_))
  refine sg_seq (sg_par up_true ((en_slice (eg_var 3 rfl) po_no (po_so (eg_mulP (eg_var 2 rfl) (eg_var 2 rfl) smn smn))).eg.cast (x' := (bothOf near far).take (near.length * near.length)) ?_) ((en_slice (eg_var 3 rfl) (po_so (eg_mulP (eg_var 2 rfl) (eg_var 2 rfl) smn smn)) po_no).eg.cast (x' := (bothOf near far).drop (near.length * near.length)) ?_) (nx_go ?_))
  · show cutL (bothOf near far) none (some ((near.length : Int) * (near.length : Int))) = _
    rw [cut_take _ t0 (by rw [tn]; omega), tn]
  · show cutL (bothOf near far) (some ((near.length : Int) * (near.length : Int))) none = _
    rw [cut_drop _ t0 (by rw [tn]; omega), tn]
  generalize hhere : (bothOf near far).take (near.length * near.length) = here
  generalize hthere : (bothOf near far).drop (near.length * near.length) = there
  have lh : here.length = near.length * near.length := by rw [← hhere, List.length_take]; omega
  have lt : there.length = near.length * near.length := by rw [← hthere, List.length_drop]; omega
  refine sg_seq (sg_own up_true (by simp [nos, st]) (en_nil (rL rI)) (nx_go ?_))
  refine sg_seq (sg_for up_true (ig_range (n := (near.length : Int)) (eg_var 2 rfl) (by omega) (by omega)) (fun i => [.im rT near, .im rT far, .im rI (near.length : Int), .no, .im (rL rI) here, .im (rL rI) there, .own (rL rI) (((upto near.length).take i).flatMap (lineRows near far)), .no, .no, .no, .no])
    ⟨.inr rfl, .inr rfl, .inr rfl, .inl rfl, .inr rfl, .inr rfl, .inr rfl, .inl rfl, .inl rfl, .inl rfl, .inl rfl, trivial⟩ (fun i line P' hu hi => ⟨_, gl_name, ?_⟩) ?_)
  · obtain ⟨rfl, hi2⟩ := ints_at hi
    rw [Int.toNat_natCast] at hi2
    have e1 := map_flat_take (lineRows near far) (xs := upto near.length) hi
    have l1 : (((upto near.length).take i).flatMap (lineRows near far)).length ≤ 16 := by
      rw [fm_len _ near.length _ (fun x _ => lineRows_len near far x), List.length_take, upto_len]
      exact Nat.le_trans (Nat.mul_le_mul_right _ (Nat.min_le_right _ _)) hn4
    refine sg_for hu (ig_range (n := (near.length : Int)) (eg_var 2 rfl) (by omega) (by omega)) (fun j => [.im rT near, .im rT far, .im rI (near.length : Int), .no, .im (rL rI) here, .im (rL rI) there, .own (rL rI) (((upto near.length).take i).flatMap (lineRows near far) ++ ((upto near.length).take j).map (leadRow here there near.length (i : Int))), .im rI (i : Int), .no, .no, .no])
      ⟨.inr rfl, .inr rfl, .inr rfl, .inl rfl, .inr rfl, .inr rfl, .inr (by rw [List.take_zero, List.map_nil, List.append_nil]), .inr rfl, .inl rfl, .inl rfl, .inl rfl, trivial⟩ (fun j place P2 hu2 hj => ⟨_, gl_name, ?_⟩) ?_
    · obtain ⟨rfl, hj2⟩ := ints_at hj
      rw [Int.toNat_natCast] at hj2
      refine sg_seq (sg_own hu2 (by simp [st]) ((en_rep (en_lst (er_cons eg_int er_nil) (show 1 < big by decide)).eg (eg_mulP (eg_var 2 rfl) (eg_var 2 rfl) smn smn) t0 tl).cast (xs' := List.replicate (near.length * near.length) 0) (by rw [tn])) (nx_go ?_))
      refine sg_seq (sg_for hu2 (ig_range (n := (near.length : Int)) (eg_var 2 rfl) (by omega) (by omega)) (fun m => [.im rT near, .im rT far, .im rI (near.length : Int), .no, .im (rL rI) here, .im (rL rI) there, .own (rL rI) (((upto near.length).take i).flatMap (lineRows near far) ++ ((upto near.length).take j).map (leadRow here there near.length (i : Int))), .im rI (i : Int), .im rI (j : Int), .own rI (((upto near.length).take m).foldl (leadStep here there near.length (i : Int) (j : Int)) (List.replicate (near.length * near.length) 0)), .no])
        ⟨.inr rfl, .inr rfl, .inr rfl, .inl rfl, .inr rfl, .inr rfl, .inr rfl, .inr rfl, .inr rfl, .inr rfl, .inl rfl, trivial⟩ (fun m at_ P3 hu3 hm => ⟨_, gl_name, ?_⟩) ?_)
      · have em : ((upto near.length).take (m + 1)).foldl (leadStep here there near.length (i : Int) (j : Int)) (List.replicate (near.length * near.length) 0) = leadStep here there near.length (i : Int) (j : Int) (((upto near.length).take m).foldl (leadStep here there near.length (i : Int) (j : Int)) (List.replicate (near.length * near.length) 0)) at_ := by
          rw [take_succ' (l := upto near.length) hm, List.foldl_append]
          rfl
        have lr := leadSteps_len here there near.length (i : Int) (j : Int) ((upto near.length).take m) (List.replicate (near.length * near.length) 0)
        rw [List.length_replicate] at lr
        obtain ⟨rfl, hm2⟩ := ints_at hm
        rw [Int.toNat_natCast] at hm2
        generalize hrow : ((upto near.length).take m).foldl (leadStep here there near.length (i : Int) (j : Int)) (List.replicate (near.length * near.length) 0) = row at *
        have a1 := ix_in hm2 hj2
        have a2 := ix_in hi2 hm2
        have smi : Sm (i : Int) := sm_nat (by omega)
        have smm : Sm (m : Int) := sm_nat (by omega)
        refine sg_seq (sg_set (n := 9) hu3 rfl (eg_add (eg_ixO (xs := row) 9 rfl (eg_add (eg_mulP (eg_var 10 rfl) (eg_var 2 rfl) smm smn) (eg_var 8 rfl)) (at0_at a1.1 (by rw [lr]; exact a1.2))) (eg_ix (eg_var 4 rfl) (eg_add (eg_mulP (eg_var 7 rfl) (eg_var 2 rfl) smi smn) (eg_var 10 rfl)) (at0_at a2.1 (by rw [lh]; exact a2.2)))) (eg_add (eg_mulP (eg_var 10 rfl) (eg_var 2 rfl) smm smn) (eg_var 8 rfl)) (ixN_pos a1.1 (by rw [lr]; exact a1.2)) (nx_go ?_))
        have lr2 := addAt_len row ((m : Int) * (near.length : Int) + (j : Int)) (at0 here ((i : Int) * (near.length : Int) + (m : Int)))
        rw [lr] at lr2
        refine sg_set (n := 9) hu3 rfl (eg_sub (eg_ixO (xs := addAt row ((m : Int) * (near.length : Int) + (j : Int)) (at0 here ((i : Int) * (near.length : Int) + (m : Int)))) 9 rfl (eg_add (eg_mulP (eg_var 7 rfl) (eg_var 2 rfl) smi smn) (eg_var 10 rfl)) (at0_at a2.1 (by rw [lr2]; exact a2.2))) (eg_ix (eg_var 5 rfl) (eg_add (eg_mulP (eg_var 10 rfl) (eg_var 2 rfl) smm smn) (eg_var 8 rfl)) (at0_at a1.1 (by rw [lt]; exact a1.2)))) (eg_add (eg_mulP (eg_var 7 rfl) (eg_var 2 rfl) smi smn) (eg_var 10 rfl)) (j := ((i : Int) * (near.length : Int) + (m : Int)).toNat) (ixN_pos a2.1 (by
            show _ < (addAt row ((m : Int) * (near.length : Int) + (j : Int)) (at0 here ((i : Int) * (near.length : Int) + (m : Int)))).length
            rw [lr2]; exact a2.2)) (nx_of rfl ⟨.inr rfl, .inr rfl, .inr rfl, .inl rfl, .inr rfl, .inr rfl, .inr rfl, .inr rfl, .inr rfl, .inr ?_, .inl rfl, trivial⟩)
        rw [em]
        rfl
      · rw [ints_len, Int.toNat_natCast, full]
        refine sg_freeze (n := 9) hu2 rfl (sg_append (n := 6) hu2 rfl (eg_var 9 rfl) ?_ (nx_of rfl ⟨.inr rfl, .inr rfl, .inr rfl, .inl rfl, .inr rfl, .inr rfl, .inr ?_, .inr rfl, .inl rfl, .inl rfl, .inl rfl, trivial⟩))
        · rw [List.length_append, List.length_map, List.length_take, upto_len]
          unfold big
          omega
        · rw [take_succ' (l := upto near.length) hj, List.map_append, ← List.append_assoc]
          rfl
    · rw [ints_len, Int.toNat_natCast, full]
      refine nx_of rfl ⟨.inr rfl, .inr rfl, .inr rfl, .inl rfl, .inr rfl, .inr rfl, .inr ?_, .inl rfl, .inl rfl, .inl rfl, .inl rfl, trivial⟩
      rw [e1]
      unfold lineRows
      rw [hhere, hthere]
  · rw [ints_len, Int.toNat_natCast, full]
    exact sg_freeze (n := 6) up_true rfl (sg_out (eg_var 6 rfl) k rfl)
abbrev s_leads_of : Stmt := (topS 81)
abbrev N_leads_of : List Str := ["house", "other", "rows", "near", "far", "size", "row"]
theorem sc_leads_of : FnScope N_leads_of ["house", "other"] (defScope s_leads_of) := ⟨rfl, rfl, rfl, by decide +kernel, rfl, by decide +kernel, by decide +kernel⟩
abbrev T_leads_of (P : Program) (w : World) (K : PySem.W.Frag) (mg : Str → Option Value) (base : Heap) : Prop := Ok P w K mg base "leads_of" 47 ["house", "other"] (sp2 rH rH A_leads_of (rL (rL (rL rQ))) m_leads_of)
theorem ok_leads_of (T : Tx P K mg base) (d : Df K mg "leads_of" s_leads_of) (O_lead_rows : T_lead_rows P w K mg base) (O_kernel_of : T_kernel_of P w K mg base) (O_told_rows : T_told_rows P w K mg base) (O_int_steps : T_int_steps P w K mg base) (O_short_of : T_short_of P w K mg base) : T_leads_of P w K mg base := by
  refine mkOk d sc_leads_of (fun _ _ _ _ _ _ us hl => match us, hl with | [_, _], _ => rfl) len2 fun f cdv A outer s H E hr => ?_
  have nd := sc_leads_of.nd
  refine ⟨_, (pss_cons (ps_set (i := 2) nd rfl (Or.inl rfl) (pe_lst pa_nil))
      (pss_cons (ps_for PassesOwn.never rfl (pi_zipK (K := K) rfl (by rfl) T.zip (pa_cons (pe_fldK (K := K) rfl (pv 0) rfl) (pa_cons (pe_fldK (K := K) rfl (pv 1) rfl) pa_nil))) (pg_tupK (K := K) (n := 2) rfl rfl (pgs_cons (pg_name (i := 3) nd rfl (Or.inl rfl)) (pgs_cons (pg_name (i := 4) nd rfl (Or.inl rfl)) pgs_nil))) (pss_one (ps_expr (pe_bm PySem.F.plainAttrs_list PySem.F.slot_list_extend PySem.F.type_list_extend mt_extend (pv 2) (pa_cons (pe_callO O_lead_rows (hr.mono (by decide)) (by rfl) (pa_cons (pv 3) (pa_cons (pv 4) pa_nil))) pa_nil)))))
      (pss_cons (ps_set (i := 5) nd rfl (Or.inr rfl) (pe_fldK (K := K) rfl (pv 0) rfl))
      (pss_one (ps_ret (pe_lc (own := [("row", 6)]) (g := gName 6) (tt := tYes) rfl nd (pi_listK (K := K) rfl (pe_callO O_kernel_of (hr.mono (by decide)) (by rfl) (pa_cons (pe_callO O_told_rows (hr.mono (by decide)) (by rfl) (pa_cons (pe_callO O_int_steps (hr.mono (by decide)) (by rfl) (pa_cons (pv 2) pa_nil)) pa_nil)) (pa_cons (pe_op op_mulP (pv 5) (pv 5)) pa_nil)))) (blkOk_by (by kernel_rfl)) (fun _ _ _ _ _ => (pg_name (i := 6) nd rfl (by first | exact Or.inl rfl | exact Or.inr rfl))) (fun _ _ _ _ _ => pts_nil) (fun _ _ _ _ _ => (pe_callO O_short_of (hr.mono (by decide)) (by rfl) (pa_cons (pv 6) (pa_cons (pv 5) pa_nil)))))))))), fin2 (n := 5) rfl ?_⟩
  intro h o G H Q c k
  obtain ⟨c1, c2, c3, c4, c5, c6⟩ := c
  have smn : Sm (h.n : Int) := sm_nat (by omega)
  have lens : ∀ p ∈ h.ls.zip o.ls, (m_lead_rows p.1 p.2).length ≤ 16 := fun p hp => by
    have := (c3 p hp).1
    unfold m_lead_rows
    rw [fm_len _ p.1.length _ (fun x _ => lineRows_len p.1 p.2 x), upto_len]
    exact Nat.mul_le_mul this this
  have zl : (h.ls.zip o.ls).length < 10 := by rw [List.length_zip]; omega
  have pre : ∀ (m : Nat), m ≤ (h.ls.zip o.ls).length → (((h.ls.zip o.ls).take m).flatMap fun p => m_lead_rows p.1 p.2).length ≤ m * 16 := by
    intro m
    induction m with
    | zero => intro _; simp
    | succ m ih =>
      intro hm
      have hm' : m < (h.ls.zip o.ls).length := by omega
      rw [map_flat_take (fun p : Tab × Tab => m_lead_rows p.1 p.2) (List.getElem?_eq_getElem hm'), List.length_append]
      have := ih (by omega)
      have := lens _ (List.getElem_mem hm')
      omega
  refine sg_seq (sg_own up_true (by simp [nos]) (en_nil (rL rI)) (nx_go ?_))
  refine sg_seq (sg_for up_true (ig_zip (eg_letters T.clH T.nlH (eg_var 0 rfl)) (eg_letters T.clH T.nlH (eg_var 1 rfl))) (fun n => [.im rH h, .im rH o, .own (rL rI) (((h.ls.zip o.ls).take n).flatMap fun p => m_lead_rows p.1 p.2), .no, .no, .no, .no])
    ⟨.inr rfl, .inr rfl, .inr rfl, .inl rfl, .inl rfl, .inl rfl, .inl rfl, trivial⟩ (fun n p P' hu hp => ⟨_, gl_pair, ?_⟩) ?_)
  · have e := map_flat_take (fun p : Tab × Tab => m_lead_rows p.1 p.2) hp
    have hn := (List.getElem?_eq_some_iff.mp hp).1
    have := pre n (by omega)
    have := lens p (mem_of_at hp)
    exact sg_extend (n := 2) hu rfl (eg_call2 (eg_var 3 rfl) (eg_var 4 rfl) (c3 p (mem_of_at hp))) (by unfold big; omega) (nx_of rfl ⟨.inr rfl, .inr rfl, .inr (by rw [e] <;> rfl), .inl rfl, .inl rfl, .inl rfl, .inl rfl, trivial⟩)
  · rw [List.take_length]
    refine sg_freeze (n := 2) up_true rfl (sg_seq (sg_asg up_true (eg_width T.clH T.nwH (eg_var 0 rfl)) (nx_go ?_)))
    exact sg_out (en_lc (f := fun r => m_short_of r (h.n : Int)) (ig_list (eg_call2 (eg_call1 (eg_call1 (eg_var 2 rfl) c4) c5) (eg_mulP (eg_var 5 rfl) (eg_var 5 rfl) smn smn) c6)) (by decide) (fun n r hr => ⟨_, gt_name (by decide), eg_call2 (eg_var 6 rfl) (eg_var 5 rfl) ⟨by omega, by omega⟩⟩)).eg k rfl
abbrev s_commuting_of : Stmt := (topS 82)
abbrev N_commuting_of : List Str := ["house"]
theorem sc_commuting_of : FnScope N_commuting_of ["house"] (defScope s_commuting_of) := ⟨rfl, rfl, rfl, by decide +kernel, rfl, by decide +kernel, by decide +kernel⟩
abbrev T_commuting_of (P : Program) (w : World) (K : PySem.W.Frag) (mg : Str → Option Value) (base : Heap) : Prop := Ok P w K mg base "commuting_of" 48 ["house"] (sp1 rH A_commuting_of (rL (rL (rL rQ))) m_commuting_of)
theorem ok_commuting_of (T : Tx P K mg base) (d : Df K mg "commuting_of" s_commuting_of) (O_leads_of : T_leads_of P w K mg base) : T_commuting_of P w K mg base := by
  refine mkOk d sc_commuting_of (fun _ _ _ _ _ _ us hl => match us, hl with | [_], _ => rfl) len1 fun f cdv A outer s H E hr => ?_
  have nd := sc_commuting_of.nd
  refine ⟨_, (pss_one (ps_ret (pe_callO O_leads_of (hr.mono (by decide)) (by rfl) (pa_cons (pv 0) (pa_cons (pv 0) pa_nil))))), fin1 (n := 0) rfl ?_⟩
  intro h G H Q c k
  exact sg_out (eg_call2 (eg_var 0 rfl) (eg_var 0 rfl) c) k rfl
abbrev s_apart_of : Stmt := (topS 83)
abbrev N_apart_of : List Str := ["letter", "table"]
theorem sc_apart_of : FnScope N_apart_of ["letter", "table"] (defScope s_apart_of) := ⟨rfl, rfl, rfl, by decide +kernel, rfl, by decide +kernel, by decide +kernel⟩
abbrev T_apart_of (P : Program) (w : World) (K : PySem.W.Frag) (mg : Str → Option Value) (base : Heap) : Prop := Ok P w K mg base "apart_of" 46 ["letter", "table"] (sp2 (rL (rL rQ)) (rL (rL rQ)) A_apart_of (rL rQ) m_apart_of)
theorem ok_apart_of (T : Tx P K mg base) (d : Df K mg "apart_of" s_apart_of) (MQ : MkQ P w K mg base 42) (O_long_of : T_long_of P w K mg base) (O_mixed_of : T_mixed_of P w K mg base) (O_product_of : T_product_of P w K mg base) : T_apart_of P w K mg base := by
  refine mkOk d sc_apart_of (fun _ _ _ _ _ _ us hl => match us, hl with | [_, _], _ => rfl) len2 fun f cdv A outer s H E hr => ?_
  have nd := sc_apart_of.nd
  refine ⟨_, (pss_one (ps_ret (pe_callO O_long_of (hr.mono (by decide)) (by rfl) (pa_cons (pe_callO O_mixed_of (hr.mono (by decide)) (by rfl) (pa_cons (pe_callO O_product_of (hr.mono (by decide)) (by rfl) (pa_cons (pv 0) (pa_cons (pv 1) pa_nil))) (pa_cons (pe_callO O_product_of (hr.mono (by decide)) (by rfl) (pa_cons (pv 1) (pa_cons (pv 0) pa_nil))) (pa_cons (pe_mkQ1 MQ T.g_Ratio (hr.mono (by decide)) (by rfl) (pa_cons (pe_un un_neg pe_int) pa_nil)) pa_nil)))) pa_nil)))), fin2 (n := 0) rfl ?_⟩
  intro l t G H Q c k
  obtain ⟨c1, c2, c3, c4⟩ := c
  exact sg_out (eg_call1 (eg_call3 (eg_call2 (eg_var 0 rfl) (eg_var 1 rfl) c1) (eg_call2 (eg_var 1 rfl) (eg_var 0 rfl) c2) ((eg_mkQ1 (eg_neg eg_int)).cast (rat_int (-1))) c3) c4) k rfl
abbrev s_mixed_row : Stmt := (topS 84)
abbrev N_mixed_row : List Str := ["numbers", "rows", "found", "number", "row", "here", "there"]
theorem sc_mixed_row : FnScope N_mixed_row ["numbers", "rows"] (defScope s_mixed_row) := ⟨rfl, rfl, rfl, by decide +kernel, rfl, by decide +kernel, by decide +kernel⟩
abbrev T_mixed_row (P : Program) (w : World) (K : PySem.W.Frag) (mg : Str → Option Value) (base : Heap) : Prop := Ok P w K mg base "mixed_row" 45 ["numbers", "rows"] (sp2 (rL rQ) (rL (rL rQ)) A_mixed_row (rL rQ) m_mixed_row)
theorem ok_mixed_row (T : Tx P K mg base) (d : Df K mg "mixed_row" s_mixed_row) (MQ : MkQ P w K mg base 42) (M_mul : T_mul P w K mg base) (M_add : T_add P w K mg base) (P_sign : T_sign P w K mg base) : T_mixed_row P w K mg base := by
  refine mkOk d sc_mixed_row (fun _ _ _ _ _ _ us hl => match us, hl with | [_, _], _ => rfl) len2 fun f cdv A outer s H E hr => ?_
  have nd := sc_mixed_row.nd
  refine ⟨_, (pss_cons (ps_set (i := 2) nd rfl (Or.inl rfl) (pe_op op_rep (pe_lst (pa_cons (pe_mkQ1 MQ T.g_Ratio (hr.mono (by decide)) (by rfl) (pa_cons pe_int pa_nil)) pa_nil)) (pe_callB (call_lenK (K := K) rfl) (by rfl) T.len bt_len (pa_cons (pe_ix (ix_listK (K := K) rfl) (pv 1) pe_int (fun _ _ => rfl)) pa_nil))))
      (pss_cons (ps_for PassesOwn.never rfl (pi_zipK (K := K) rfl (by rfl) T.zip (pa_cons (pv 0) (pa_cons (pv 1) pa_nil))) (pg_tupK (K := K) (n := 2) rfl rfl (pgs_cons (pg_name (i := 3) nd rfl (Or.inr rfl)) (pgs_cons (pg_name (i := 4) nd rfl (Or.inl rfl)) pgs_nil))) (pss_one (ps_if (pt_cmpR op_ne (pe_propO P_sign T.clQ (hr.mono (by decide)) (pv 3) rfl) pe_int (nomark _)) (pss_one (ps_setLc (own := [("here", 5), ("there", 6)]) (tt := tYes) (i := 2) rfl nd rfl rfl (sw_true rfl rfl rfl (by kernel_rfl)) (pi_zipK (K := K) rfl (by rfl) T.zip (pa_cons (pv 2) (pa_cons (pv 4) pa_nil))) (blkOk_by (by kernel_rfl)) (fun _ _ _ _ _ => (pg_tupK (K := K) (n := 2) rfl rfl (pgs_cons (pg_name (i := 5) nd rfl (by first | exact Or.inl rfl | exact Or.inr rfl)) (pgs_cons (pg_name (i := 6) nd rfl (by first | exact Or.inl rfl | exact Or.inr rfl)) pgs_nil)))) (fun _ _ _ _ _ => pts_nil) (fun _ _ _ _ _ => (pe_op (op_ownO M_add T.selfQ (hr.mono (by decide))) (pv 5) (pe_op (op_ownO M_mul T.selfQ (hr.mono (by decide))) (pv 3) (pv 6)))))) pss_nil)))
      (pss_one (ps_ret (pv 2))))), fin2 (n := 5) rfl ?_⟩
  intro ns rows G H Q c k
  obtain ⟨c1, c2⟩ := c
  have zero : (0 : Rat) = Rat.divInt 0 1 := (rat_int 0).symm
  obtain ⟨r0, rs, rfl⟩ := List.exists_cons_of_ne_nil c1
  generalize hrows : r0 :: rs = rows at *
  have at0' : L2.atI rows 0 = some r0 := by rw [← hrows]; exact at_zero
  have wq : wideQ rows = r0.length := by rw [← hrows]; rfl
  refine sg_lens (n := 1) rfl fun z => ?_
  have z0 : r0.length < big := z r0 (by rw [← hrows]; exact List.mem_cons_self ..)
  refine sg_seq (sg_asg up_true ((en_rep (en_lst (er_cons ((eg_mkQ1 eg_int).cast zero.symm) er_nil) (show 1 < big by decide)).eg (eg_len (eg_ix (eg_var 1 rfl) eg_int at0')) (by omega) (by unfold big at z0; omega)).eg.cast (x' := List.replicate (wideQ rows) 0) (by rw [Int.toNat_natCast, wq])) (nx_go ?_))
  refine sg_seq (sg_for up_true (ig_zip (eg_var 0 rfl) (eg_var 1 rfl)) (fun n => [.im (rL rQ) ns, .im (rL (rL rQ)) rows, .im (rL rQ) (((ns.zip rows).take n).foldl mixPut (List.replicate (wideQ rows) 0)), .no, .no, .no, .no])
    ⟨.inr rfl, .inr rfl, .inr rfl, .inl rfl, .inl rfl, .inl rfl, .inl rfl, trivial⟩ (fun n p P' hu hp => ⟨_, gl_pair, ?_⟩) ?_)
  · have e : ((ns.zip rows).take (n + 1)).foldl mixPut (List.replicate (wideQ rows) 0) = mixPut (((ns.zip rows).take n).foldl mixPut (List.replicate (wideQ rows) 0)) p := by
      rw [take_succ' hp, List.foldl_append]
      rfl
    have d := c2 n p hp
    generalize hf : ((ns.zip rows).take n).foldl mixPut (List.replicate (wideQ rows) 0) = found at *
    refine sg_if (b := !decide (p.1.num.sign = 0)) hu (tg_val (eg_ne (eg_prop (eg_var 3 rfl) trivial) eg_int)) (fun h => ?_) (fun h => ?_)
    · have h' : p.1.num.sign ≠ 0 := by simpa using h
      have d' := d h'
      refine sg_asg hu (en_lc (f := fun x : Rat × Rat => x.1 + p.1 * x.2) (ig_zip (eg_var 2 rfl) (eg_var 4 rfl)) (by decide) (fun m x hx => ⟨_, gt_pair (gt_name (by decide)) (gt_name (by decide)), eg_own (eg_var 5 rfl) (eg_own (eg_var 3 rfl) (eg_var 6 rfl) ⟨(d' x (mem_of_at hx)).2.1, (d' x (mem_of_at hx)).2.2.1⟩) ⟨(d' x (mem_of_at hx)).1, (d' x (mem_of_at hx)).2.2.2⟩⟩)).eg (nx_of rfl ⟨.inr rfl, .inr rfl, .inr ?_, .inl rfl, .inl rfl, .inl rfl, .inl rfl, trivial⟩)
      rw [e]
      unfold mixPut
      rw [if_pos h']
    · have h' : ¬ p.1.num.sign ≠ 0 := by simpa using h
      refine sg_next (nx_of rfl ⟨.inr rfl, .inr rfl, .inr ?_, .inl rfl, .inl rfl, .inl rfl, .inl rfl, trivial⟩)
      rw [e]
      unfold mixPut
      rw [if_neg h']
  · rw [List.take_length]
    exact sg_out (eg_var 2 rfl) k rfl
abbrev s_middle_of : Stmt := (topS 85)
abbrev N_middle_of : List Str := ["house", "size", "rows", "tables", "lines", "letter", "columns", "found", "numbers", "row", "table", "place", "column"]
theorem sc_middle_of : FnScope N_middle_of ["house"] (defScope s_middle_of) := ⟨rfl, rfl, rfl, by decide +kernel, rfl, by decide +kernel, by decide +kernel⟩
abbrev T_middle_of (P : Program) (w : World) (K : PySem.W.Frag) (mg : Str → Option Value) (base : Heap) : Prop := Ok P w K mg base "middle_of" 49 ["house"] (sp1 rH A_middle_of (rL (rL (rL rQ))) m_middle_of)
theorem ok_middle_of (T : Tx P K mg base) (d : Df K mg "middle_of" s_middle_of) (O_told_rows : T_told_rows P w K mg base) (O_int_lot : T_int_lot P w K mg base) (O_short_of : T_short_of P w K mg base) (O_apart_of : T_apart_of P w K mg base) (O_kernel_of : T_kernel_of P w K mg base) (O_mixed_row : T_mixed_row P w K mg base) (O_steps_of : T_steps_of P w K mg base) : T_middle_of P w K mg base := by
  refine mkOk d sc_middle_of (fun _ _ _ _ _ _ us hl => match us, hl with | [_], _ => rfl) len1 fun f cdv A outer s H E hr => ?_
  have nd := sc_middle_of.nd
  refine ⟨_, (pss_cons (ps_asg (pe_tup (pa_cons (pe_fldK (K := K) rfl (pv 0) rfl) (pa_cons (pe_callO O_told_rows (hr.mono (by decide)) (by rfl) (pa_cons (pe_callO O_int_lot (hr.mono (by decide)) (by rfl) (pa_cons (pv 0) pa_nil)) pa_nil)) pa_nil))) (pg_tupK (K := K) (n := 2) rfl rfl (pgs_cons (pg_name (i := 1) nd rfl (Or.inr rfl)) (pgs_cons (pg_name (i := 2) nd rfl (Or.inr rfl)) pgs_nil))))
      (pss_cons (ps_par (i := 3) (j := 4) rfl nd rfl rfl (by decide) rfl rfl (pa_cons (pe_lc (own := [("row", 9)]) (g := gName 9) (tt := tYes) rfl nd (pi_listK (K := K) rfl (pv 2)) (blkOk_by (by kernel_rfl)) (fun _ _ _ _ _ => (pg_name (i := 9) nd rfl (by first | exact Or.inl rfl | exact Or.inr rfl))) (fun _ _ _ _ _ => pts_nil) (fun _ _ _ _ _ => (pe_callO O_short_of (hr.mono (by decide)) (by rfl) (pa_cons (pv 9) (pa_cons (pv 1) pa_nil))))) (pa_cons (pe_lst pa_nil) pa_nil)) (by rfl))
      (pss_cons (ps_for PassesOwn.never rfl (pi_listK (K := K) rfl (pe_fldK (K := K) rfl (pv 0) rfl)) (pg_name (i := 5) nd rfl (Or.inr rfl)) (pss_cons (ps_set (i := 6) nd rfl (Or.inr rfl) (pe_lc (own := [("table", 10)]) (g := gName 10) (tt := tYes) rfl nd (pi_listK (K := K) rfl (pv 3)) (blkOk_by (by kernel_rfl)) (fun _ _ _ _ _ => (pg_name (i := 10) nd rfl (by first | exact Or.inl rfl | exact Or.inr rfl))) (fun _ _ _ _ _ => pts_nil) (fun _ _ _ _ _ => (pe_callO O_apart_of (hr.mono (by decide)) (by rfl) (pa_cons (pv 5) (pa_cons (pv 10) pa_nil))))))
      (pss_one (ps_expr (pe_bm PySem.F.plainAttrs_list PySem.F.slot_list_extend PySem.F.type_list_extend mt_extend (pv 4) (pa_cons (pe_lc (own := [("place", 11)]) (g := gName 11) (tt := tYes) rfl nd (pi_range1 (by rfl) T.range (pa_cons (pe_op op_mulP (pv 1) (pv 1)) pa_nil)) (blkOk_by (by kernel_rfl)) (fun _ _ _ _ _ => (pg_name (i := 11) nd rfl (by first | exact Or.inl rfl | exact Or.inr rfl))) (fun _ _ _ _ _ => pts_nil) (fun _ _ _ _ _ => (pe_lc (own := [("column", 12)]) (g := gName 12) (tt := tYes) rfl nd (pi_listK (K := K) rfl (pv 6)) (blkOk_by (by kernel_rfl)) (fun _ _ _ _ _ => (pg_name (i := 12) nd rfl (by first | exact Or.inl rfl | exact Or.inr rfl))) (fun _ _ _ _ _ => pts_nil) (fun _ _ _ _ _ => (pe_ix (ix_listK (K := K) rfl) (pv 12) (pv 11) (fun _ _ => rfl)))))) pa_nil))))))
      (pss_cons (ps_setLc (own := [("numbers", 8)]) (g := gName 8) (tt := tYes) (i := 7) rfl nd rfl rfl (sw_true rfl rfl rfl (by kernel_rfl)) (pi_listK (K := K) rfl (pe_callO O_kernel_of (hr.mono (by decide)) (by rfl) (pa_cons (pv 4) (pa_cons (pe_callB (call_lenK (K := K) rfl) (by rfl) T.len bt_len (pa_cons (pv 2) pa_nil)) pa_nil)))) (blkOk_by (by kernel_rfl)) (fun _ _ _ _ _ => (pg_name (i := 8) nd rfl (by first | exact Or.inl rfl | exact Or.inr rfl))) (fun _ _ _ _ _ => pts_nil) (fun _ _ _ _ _ => (pe_callO O_mixed_row (hr.mono (by decide)) (by rfl) (pa_cons (pv 8) (pa_cons (pv 2) pa_nil)))))
      (pss_one (ps_ret (pe_lc (own := [("row", 9)]) (g := gName 9) (tt := tYes) rfl nd (pi_listK (K := K) rfl (pe_callO O_steps_of (hr.mono (by decide)) (by rfl) (pa_cons (pv 7) pa_nil))) (blkOk_by (by kernel_rfl)) (fun _ _ _ _ _ => (pg_name (i := 9) nd rfl (by first | exact Or.inl rfl | exact Or.inr rfl))) (fun _ _ _ _ _ => pts_nil) (fun _ _ _ _ _ => (pe_callO O_short_of (hr.mono (by decide)) (by rfl) (pa_cons (pv 9) (pa_cons (pv 1) pa_nil))))))))))), fin1 (n := 12) rfl ?_⟩
  intro h G H Q c k
  obtain ⟨c1, c2, c3, c4, c5, c6, c7, c8⟩ := c
  have smn : Sm (h.n : Int) := sm_nat (by omega)
  have hn4 : h.n * h.n ≤ 16 := Nat.mul_le_mul c1 c1
  have t0 : (0 : Int) ≤ (h.n : Int) * (h.n : Int) := by rw [← Int.natCast_mul]; exact Int.natCast_nonneg _
  have tl : (h.n : Int) * (h.n : Int) < 100000 := by rw [← Int.natCast_mul]; omega
  have tn : ((h.n : Int) * (h.n : Int)).toNat = h.n * h.n := by rw [← Int.natCast_mul, Int.toNat_natCast]
  have pre : ∀ m : Nat, ((h.ls.take m).flatMap fun l => turned (colsOf l (lotT h)) (h.n * h.n)).length ≤ 160 := fun m => by
    rw [fm_len _ (h.n * h.n) _ (fun x _ => by simp [turned, upto_len]), List.length_take]
    have : min m h.ls.length ≤ 10 := by omega
    have := Nat.mul_le_mul this hn4
    omega
  refine sg_seq (sg_tup up_true (eg_width T.clH T.nwH (eg_var 0 rfl)) (eg_call1 (eg_call1 (eg_var 0 rfl) c3) c4) (nx_go ?_))
  refine sg_seq (sg_parO up_true (by simp [nos, st]) (en_lc (f := fun r => m_short_of r (h.n : Int)) (ig_list (eg_var 2 rfl)) (by decide) (fun n r hr => ⟨_, gt_name (by decide), eg_call2 (eg_var 9 rfl) (eg_var 1 rfl) ⟨by omega, by omega⟩⟩)).eg (en_nil (rL rQ)) (nx_go ?_))
  refine sg_seq (sg_for up_true (ig_list (eg_letters T.clH T.nlH (eg_var 0 rfl))) (fun n => [.im rH h, .im rI (h.n : Int), .im (rL (rL rQ)) (m_told_rows (m_int_lot h)), .im rTs (lotT h), .own (rL rQ) ((h.ls.take n).flatMap fun l => turned (colsOf l (lotT h)) (h.n * h.n)), .no, .no, .no, .no, .no, .no, .no, .no])
    ⟨.inr rfl, .inr rfl, .inr rfl, .inr rfl, .inr rfl, .inl rfl, .inl rfl, .inl rfl, .inl rfl, .inl rfl, .inl rfl, .inl rfl, .inl rfl, trivial⟩ (fun n l P' hu hl => ⟨_, gl_name, ?_⟩) ?_)
  · have e := map_flat_take (fun l => turned (colsOf l (lotT h)) (h.n * h.n)) hl
    have d := c5 l (mem_of_at hl)
    have lp := pre (n + 1)
    rw [e, List.length_append] at lp
    refine sg_seq (sg_asg hu (en_lc (f := fun t => m_apart_of l t) (ig_list (eg_var 3 rfl)) (by decide) (fun m t ht => ⟨_, gt_name (by decide), eg_call2 (eg_var 5 rfl) (eg_var 10 rfl) (d t (mem_of_at ht)).1⟩)).eg (nx_go ?_))
    refine sg_extend (n := 4) hu rfl ((en_lc (f := fun p : Int => (colsOf l (lotT h)).map fun c => atQ c p) (ig_range (n := (h.n : Int) * (h.n : Int)) (eg_mulP (eg_var 1 rfl) (eg_var 1 rfl) smn smn) t0 tl) (by decide) (fun m p hp => ⟨_, gt_name (by decide), (en_lc (f := fun c : List Rat => atQ c p) (ig_list (eg_var 6 rfl)) (by decide) (fun i cc hc => ⟨_, gt_name (by decide), eg_ix (eg_var 12 rfl) (eg_var 11 rfl) ?_⟩)).eg⟩)).eg.cast (x' := turned (colsOf l (lotT h)) (h.n * h.n)) ?_) (by unfold big; omega) (nx_of rfl ⟨.inr rfl, .inr rfl, .inr rfl, .inr rfl, .inr (by rw [e] <;> rfl), .inl rfl, .inl rfl, .inl rfl, .inl rfl, .inl rfl, .inl rfl, .inl rfl, .inl rfl, trivial⟩)
    · obtain ⟨rfl, hm⟩ := ints_at hp
      rw [tn] at hm
      obtain ⟨t, ht, rfl⟩ := List.mem_map.mp (mem_of_at hc)
      exact atQ_at (by omega) (by rw [(d t ht).2]; omega)
    · unfold turned upto
      rw [tn]
  · rw [List.take_length]
    refine sg_freeze (n := 4) up_true rfl (sg_seq (sg_asg up_true (en_lc (f := fun ns => m_mixed_row ns (m_told_rows (m_int_lot h))) (ig_list (eg_call2 (eg_var 4 rfl) (eg_len (eg_var 2 rfl)) c6)) (by decide) (fun n ns hns => ⟨_, gt_name (by decide), eg_call2 (eg_var 8 rfl) (eg_var 2 rfl) (c7 ns (mem_of_at hns))⟩)).eg (nx_go ?_)))
    exact sg_out (en_lc (f := fun r => m_short_of r (h.n : Int)) (ig_list (eg_call1 (eg_var 7 rfl) c8)) (by decide) (fun n r hr => ⟨_, gt_name (by decide), eg_call2 (eg_var 9 rfl) (eg_var 1 rfl) ⟨by omega, by omega⟩⟩)).eg k rfl
abbrev A_commuting (h : Hou) : Prop := A_commuting_of h
abbrev m_commuting (h : Hou) : List Tab := m_commuting_of h
abbrev s_commuting : Stmt := (topS 86)
abbrev N_commuting : List Str := ["house"]
theorem sc_commuting : FnScope N_commuting ["house"] (defScope s_commuting) := ⟨rfl, rfl, rfl, by decide +kernel, rfl, by decide +kernel, by decide +kernel⟩
abbrev T_commuting (P : Program) (w : World) (K : PySem.W.Frag) (mg : Str → Option Value) (base : Heap) : Prop := Ok P w K mg base "commuting" 49 ["house"] (sp1 rH A_commuting (rL (rL (rL rQ))) m_commuting)
theorem ok_commuting (T : Tx P K mg base) (d : Df K mg "commuting" s_commuting) (O_commuting_of : T_commuting_of P w K mg base) (O_want_house : T_want_house P w K mg base) : T_commuting P w K mg base := by
  refine mkOk d sc_commuting (fun _ _ _ _ _ _ us hl => match us, hl with | [_], _ => rfl) len1 fun f cdv A outer s H E hr => ?_
  have nd := sc_commuting.nd
  refine ⟨_, (pss_one (ps_ret (pe_callO O_commuting_of (hr.mono (by decide)) (by rfl) (pa_cons (pe_callO O_want_house (hr.mono (by decide)) (by rfl) (pa_cons (pv 0) pa_nil)) pa_nil)))), fin1 (n := 0) rfl ?_⟩
  intro h G H Q c k
  exact sg_out (eg_call1 (eg_call1 (eg_var 0 rfl) trivial) c) k rfl
abbrev A_middle (h : Hou) : Prop := A_middle_of h
abbrev m_middle (h : Hou) : List Tab := m_middle_of h
abbrev s_middle : Stmt := (topS 87)
abbrev N_middle : List Str := ["house"]
theorem sc_middle : FnScope N_middle ["house"] (defScope s_middle) := ⟨rfl, rfl, rfl, by decide +kernel, rfl, by decide +kernel, by decide +kernel⟩
abbrev T_middle (P : Program) (w : World) (K : PySem.W.Frag) (mg : Str → Option Value) (base : Heap) : Prop := Ok P w K mg base "middle" 50 ["house"] (sp1 rH A_middle (rL (rL (rL rQ))) m_middle)
theorem ok_middle (T : Tx P K mg base) (d : Df K mg "middle" s_middle) (O_middle_of : T_middle_of P w K mg base) (O_want_house : T_want_house P w K mg base) : T_middle P w K mg base := by
  refine mkOk d sc_middle (fun _ _ _ _ _ _ us hl => match us, hl with | [_], _ => rfl) len1 fun f cdv A outer s H E hr => ?_
  have nd := sc_middle.nd
  refine ⟨_, (pss_one (ps_ret (pe_callO O_middle_of (hr.mono (by decide)) (by rfl) (pa_cons (pe_callO O_want_house (hr.mono (by decide)) (by rfl) (pa_cons (pv 0) pa_nil)) pa_nil)))), fin1 (n := 0) rfl ?_⟩
  intro h G H Q c k
  exact sg_out (eg_call1 (eg_call1 (eg_var 0 rfl) trivial) c) k rfl
end
end TW
set_option Elab.async false
set_option linter.all false
set_option maxRecDepth 100000
set_option maxHeartbeats 4000000
/-! != of two tables whose numbers are equal by their own __eq__. -/
namespace TW
open PySem PySem.SeqAt
open AutoSeq1 (wpAny_loadPart')
open MeetsSeq MeetsSeq2 MeetsSeq3 SeqRoads2
section
variable {prog : Program} {w : World} {A : Around} {R : Result → Shared → Prop}
theorem neLoop (p q : Addr) (m : Nat) (J : Nat → Shared → Prop) (same : GQ.ListI prog w A (fun e z => R (.error e) z) p q m J) (done : ∀ z, J m z → R (.ok (.ret (.bool false))) z) (d : Nat) :
    ∀ i : Nat, m - i = d → i ≤ m → ∀ z, J i z →
      wpAny (model prog w) A.in1 (Builtin.«list.__eq__.loop» ⟨[.ref p, .ref q, rawInt i, rawInt 3], []⟩) (GQ.FinOf prog w A R) (fun e z' => R (.error e) z') z := by
  induction d with
  | zero =>
    intro i hd hi z hz
    obtain ⟨xs, ys, k1, k2, hp, hq, s1, s2, _⟩ := same _ _ hz
    obtain rfl : i = m := by omega
    have fin := done z hz
    obtain ⟨hp', g', d', tk', os'⟩ := z
    wp_walk using wpAny_loadPart' hp, wpAny_loadPart' hq
    have n1 : xs[((i : Nat) : Int).toNat]? = none := by simp; omega
    have n2 : ys[((i : Nat) : Int).toNat]? = none := by simp; omega
    rw [n1, n2]
    wp_walk using wpAny_loadPart' hp, wpAny_loadPart' hq
    show R (.ok (.ret (.bool (xs.size != ys.size)))) _
    rw [s1, s2]
    simpa using fin
  | succ d ih =>
    intro i hd hi z hz
    obtain ⟨xs, ys, k1, k2, hp, hq, s1, s2, turn⟩ := same _ _ hz
    have l1 : i < xs.size := by omega
    have l2 : i < ys.size := by omega
    have tt := turn l1 l2
    obtain ⟨hp', g', d', tk', os'⟩ := z
    wp_walk using wpAny_loadPart' hp, wpAny_loadPart' hq
    have n1 : xs[((i : Nat) : Int).toNat]? = some xs[i] := by simp [l1]
    have n2 : ys[((i : Nat) : Int).toNat]? = some ys[i] := by simp [l2]
    have nx : ((i : Int) + 1) = ((i + 1 : Nat) : Int) := by omega
    rw [n1, n2]
    refine wpAny_bind (wpAny_mono tt (fun r z2 hr => ?_) fun _ _ e => e)
    obtain ⟨rfl, hz2⟩ := hr
    have rest := ih (i + 1) (by omega) (by omega) z2 hz2
    obtain ⟨hp2, g2, d2, tk2, os2⟩ := z2
    wp_walk
    rw [nx]
    exact ⟨plainId_quiet plain_eq_loop _, codeAny_builtin entry_eq_loop (by rw [Around.under_plainId plain_eq_loop _]; exact rest)⟩
theorem listNe (p q : Addr) (m : Nat) (J : Nat → Shared → Prop) (same : GQ.ListI prog w A (fun e z => R (.error e) z) p q m J) (done : ∀ z, J m z → R (.ok (.ret (.bool false))) z) {z : Shared} (hz : J 0 z) :
    wpAny (model prog w) A.in1 (Builtin.«list.__ne__» ⟨[.ref p, .ref q], []⟩) (GQ.FinOf prog w A R) (fun e z' => R (.error e) z') z := by
  obtain ⟨xs, ys, k1, k2, hp, hq, s1, s2, _⟩ := same _ _ hz
  have rest := neLoop (A := A) (R := R) p q m J same done _ 0 rfl (Nat.zero_le _) z hz
  obtain ⟨hp', g', d', tk', os'⟩ := z
  have ll := AutoSeq1.sub_list_list
  have eqs : ¬ (xs.size != ys.size) = true := by simp [s1, s2]
  wp_walk using wpAny_loadPart' hp, wpAny_loadPart' hq
  exact ⟨plainId_quiet plain_eq_loop _, codeAny_builtin entry_eq_loop (by rw [Around.under_plainId plain_eq_loop _]; exact rest)⟩
end
end TW
namespace TW
open PySem PySem.Spec PyProof.Rows L2
section
variable {X : Cx} {n : Nat} {D : Eqv}
theorem op_neL (hD : Mon D) (h : EqG X n D) (hr : Room (n + 1) X.A) : OpR X (compareOp .NotEq) (fun x y H Q => DList D x y H ∧ ∀ H', Ext H H' → Q (.bl false) H') := by
  intro pins s σ H x y v u Q I rx ry hq
  obtain ⟨⟨a, b, xs, ys, rfl, rfl, ha, hb, p⟩, q⟩ := hq
  cases rx
  cases ry
  show wpAny (model X.prog X.w) X.A (richCompare .NotEq (.ref a) (.ref b)) (EP X pins σ Q) X.xe s
  have sb : Sub X (n + 1) X.A := ⟨hr, rfl⟩
  have same : GQ.ListI X.prog X.w X.A X.xe a b xs.length (fun _ z => LoopI X pins σ H z) := fun i z hz => by
    obtain ⟨H1, I1, e1⟩ := id hz
    obtain ⟨_, its, k, r, e⟩ := I1.hok a _ (e1 _ _ ha)
    obtain ⟨_, its2, k2, r2, e2⟩ := I1.hok b _ (e1 _ _ hb)
    refine ⟨its.toArray, its2.toArray, k, k2, e, e2, by rw [List.size_toArray, ← r.length], by rw [List.size_toArray, ← r2.length, ← p.1], fun h1 h2 => ?_⟩
    exact turnG hD h sb p r r2 i h1 h2 z hz
  have z0 : LoopI X pins σ H s := ⟨H, I, Ext.rfl'⟩
  obtain ⟨xs', ys', _, _, hl1, hb1, _⟩ := same 0 s z0
  refine wpAny_richCompare_same_room (op := .NotEq) ⟨_, hl1, rfl⟩ ⟨_, hb1, rfl⟩ F.slot_list_ne (GQ.call_here F.slot_list_ne ⟨_, hl1, rfl⟩ F.entry_list_ne (F.args_list_ne_2 _ _) ?_) hr.lines
  refine listNe (R := wants (fun v z => v ≠ .notImplemented ∧ EP X pins σ Q v z) X.xe) a b xs.length _ same (fun z hz => ?_) z0
  obtain ⟨H1, I1, e1⟩ := hz
  exact ⟨(fun x => nomatch x), .bl false, H1, I1, rfl, q H1 e1⟩
/-- what equal tables of numbers are -/
abbrev SameQ (a b : Addr) (H : Hp) : Prop := ∃ q dx dy, H a = some (.ins CQ dx (qf q)) ∧ H b = some (.ins CQ dy (qf q))
abbrev DQ : Eqv := DIns CQ SameQ
theorem mon_Q : Mon DQ := mon_ins fun a b H H' e ⟨q, dx, dy, h1, h2⟩ => ⟨q, dx, dy, e _ _ h1, e _ _ h2⟩
def rNeQ : R2 := fun x y H Q => DList (DList DQ) x y H ∧ ∀ H', Ext H H' → Q (.bl false) H'
theorem op_neQ {k : Nat} {ps : List Str} (M : Mth X.prog X.w X.K X.mg X.base "__eq__" k ps (sp2 rQ rQ A_eq rB m_eq)) (hr : Room (k + 2) X.A) : OpR X (compareOp .NotEq) rNeQ := by
  obtain ⟨f, fd, h1, h2, h3, h4, h5⟩ := M.ex
  have F : FnOk X.prog X.w X.K X.mg X.base CX0 k f fd ps (spEq SameQ) := h5.imp fun vs H Q E ⟨a, b, e, ⟨q, dx, dy, g1, g2⟩, kk⟩ =>
    ⟨.ref a, .ref b, q, q, H, e, Same.refl _, ⟨a, dx, rfl, g1⟩, ⟨b, dy, rfl, g2⟩, trivial, fun u G' H' p r => by
      obtain rfl : u = .bl (m_eq q q) := r
      rw [show m_eq q q = true by simp [m_eq]]
      exact kk H' p.h⟩
  exact op_neL (mon_list mon_Q) (eqG_list mon_Q (eqG_ins (E := E0) F h1 h2 h4 pass0)) hr
theorem prs_rows {G H : Hp} (s : Same G H) : ∀ {vs ws : List V} {r : List Rat}, All2 (rQ.rel G) vs r → All2 (rQ.rel G) ws r → Prs DQ vs ws H
  | _, _, _, .nil, .nil => Prs.nil
  | _, _, _, .cons ⟨a, dx, e1, g1⟩ t1, .cons ⟨b, dy, e2, g2⟩ t2 => Prs.cons ⟨a, b, dx, dy, _, _, e1, e2, s _ _ g1, s _ _ g2, _, dx, dy, s _ _ g1, s _ _ g2⟩ (prs_rows s t1 t2)
theorem prs_tabs {G H : Hp} (s : Same G H) : ∀ {vs ws : List V} {t : List (List Rat)}, All2 ((rL rQ).rel G) vs t → All2 ((rL rQ).rel G) ws t → Prs (DList DQ) vs ws H
  | _, _, _, .nil, .nil => Prs.nil
  | _, _, _, .cons ⟨a, xs, e1, g1, a1, _⟩ t1, .cons ⟨b, ys, e2, g2, a2, _⟩ t2 => Prs.cons ⟨a, b, xs, ys, e1, e2, s _ _ g1, s _ _ g2, prs_rows s a1 a2⟩ (prs_tabs s t1 t2)
theorem eg_neQ {Γ : List Sl} {ta tb : TE} {t : List (List Rat)} (ha : EG Γ ta (rL (rL rQ)) t) (hb : EG Γ tb (rL (rL rQ)) t) : EG Γ (tOp rNeQ ta tb) rB false := fun H0 σ G H Q h0 s t' k =>
  eg_two ha hb h0 s t' fun v w G' H' p r1 r2 => by
    obtain ⟨a, xs, e1, g1, a1, _⟩ := r1
    obtain ⟨b, ys, e2, g2, a2, _⟩ := r2
    exact ⟨⟨a, b, xs, ys, e1, e2, p.s _ _ g1, p.s _ _ g2, prs_tabs p.s a1 a2⟩, fun H2 e => k _ G' H2 (p.trans ⟨Same.refl _, fun c o h => e _ _ (p.s _ _ h), e, fun _ _ h => h⟩) rfl⟩
end
end TW
namespace TW
open PySem PySem.Spec PyProof.Rows L2
def rP3 {α β γ : Type} (R : RT α) (S : RT β) (U : RT γ) : RT (α × β × γ) := ⟨fun G v x => ∃ a v1 v2 v3, v = .ref a ∧ G a = some (.tup [v1, v2, v3]) ∧ R.rel G v1 x.1 ∧ S.rel G v2 x.2.1 ∧ U.rel G v3 x.2.2,
  fun s ⟨a, v1, v2, v3, e, h, r1, r2, r3⟩ => ⟨a, v1, v2, v3, e, s _ _ h, R.mono s r1, S.mono s r2, U.mono s r3⟩⟩
section
variable {Γ : List Sl} {ta tb tc : TE} {α β γ : Type} {R : RT α} {S : RT β} {U : RT γ} {x : α} {y : β} {z : γ}
theorem eg_tup3 (ha : EG Γ ta R x) (hb : EG Γ tb S y) (hc : EG Γ tc U z) : EG Γ (tTup (tCons ta (tCons tb (tCons tc tNil)))) (rP3 R S U) (x, y, z) := fun H0 σ G H Q h0 s t k =>
  ha H0 σ G H _ h0 s t fun v G1 H1 p1 r1 => hb H0 σ G1 H1 _ (h0.trans p1.h) p1.s (t.step p1) fun w G2 H2 p2 r2 => by
    have pp := p1.trans p2
    refine hc H0 σ G2 H2 _ (h0.trans pp.h) pp.s (t.step pp) fun u G3 H3 p3 r3 => ⟨(by decide : 3 ≤ sizeLine), fun q hq => ?_⟩
    have st := Step.new (o := .tup [v, w, u]) p3.s hq
    have gg : Same G3 (upd G3 q (.tup [v, w, u])) := st.g
    exact k _ _ _ ((pp.trans p3).trans st) ⟨q, v, w, u, rfl, upd_same, R.mono ((p2.g.trans p3.g).trans gg) r1, S.mono (p3.g.trans gg) r2, U.mono gg r3⟩
theorem sg_par3 {G0 H0 : Hp} {P : Hp → Prop} {D : Ends} {l m n : Nat} {ys : List γ} (hu : Up P) (hn : n < (st (st Γ l (.im R x)) m (.im S y)).length) (ha : EG Γ ta R x) (hb : EG Γ tb S y) (hc : EN Γ tc U ys) (k : Nx G0 H0 P (st (st (st Γ l (.im R x)) m (.im S y)) n (.own U ys)) D) :
    Sg G0 H0 P Γ (tPar3 l m n (tCons ta (tCons tb (tCons tc tNil)))) D := fun σ H ⟨G, p, q, ty⟩ =>
  ha H0 σ G H _ p.h p.s ty fun v G1 H1 p1 r1 => hb H0 σ G1 H1 _ (p.trans p1).h p1.s (ty.step p1) fun w G2 H2 p2 r2 => by
    have pa := p.trans p1
    have pp := pa.trans p2
    refine hc H0 σ G2 H2 _ pp.h p2.s ((ty.step p1).step p2) fun a vs G3 H3 p3 hl hg hh al z => ?_
    have t2 := (((ty.step p1).step p2).set_im (i := l) (R.mono p2.g r1)).set_im (i := m) r2
    exact ⟨v, w, .ref a, rfl, k _ _ ⟨G3, pp.trans p3, hu _ _ ((p1.g.trans p2.g).trans p3.g) q, own_state t2 pp.h p3 hn hl hg hh al z⟩⟩
end
end TW
namespace TW
open PySem PySem.Spec PyProof.Rows L2
/-! a call that hands back a new list of one's own -/
section
variable {Γ : List Sl} {ta tb : TE} {α β γ : Type} {R : RT α} {S : RT β} {U : RT γ} {x : α} {y : β}
def RetsN (U : RT γ) (ys : List γ) (G0 H0 : Hp) (Q : VK) : Prop := ∀ l vs G' H', Step G0 H0 G' H' → H0 l = none → G' l = none → H' l = some (.lst vs) → All2 (U.rel G') vs ys → ys.length < big → Q (.ref l) H'
def sp2N (R : RT α) (S : RT β) (A : α → β → Prop) (U : RT γ) (f : α → β → List γ) : Sp := fun vs H Q _ => ∃ v w x y G, vs = [v, w] ∧ Same G H ∧ R.rel G v x ∧ S.rel G w y ∧ A x y ∧ RetsN U (f x y) G H Q
theorem len2N {A : α → β → Prop} {f : α → β → List γ} : ∀ vs H Q E, sp2N R S A U f vs H Q E → vs.length = 2 := fun vs H Q E ⟨v, _, x, _, G, e, _⟩ => by rw [e]; rfl
theorem fin2N {N : List Str} {t : TS} {E : XK} {A : α → β → Prop} {f : α → β → List γ} {n : Nat} (hn : N.length = n + 2)
    (h : ∀ (x : α) (y : β) (G H : Hp) (Q : VK), A x y → RetsN U (f x y) G H Q → Sg G H (fun _ => True) (.im R x :: .im S y :: nos n) t { nx := fun _ H' => Q .non H', rt := Q }) :
    ∀ (vs : List V) (H' : Hp) (Q : VK), sp2N R S A U f vs H' Q E → t { nx := fun _ H' => Q .non H', rt := Q } (L2.start N vs) H' := fun vs H Q ⟨v, w, x, y, G, e, s, r, r2, c, k⟩ => by
  subst e
  exact h x y G H Q c k _ H ⟨G, Step.refl s, trivial, Ini.ty (.cons r (.cons r2 (.nil n))) (by rw [List.length_cons, List.length_cons, nos_len, hn])⟩
theorem sg_retO {G0 H0 : Hp} {P : Hp → Prop} {D : Ends} {n : Nat} {xs : List α} {Q : VK} (hi : gt Γ n = .own R xs) (k : RetsN R xs G0 H0 Q) (e : D.rt = Q) : Sg G0 H0 P Γ (tRet (tVar n)) D := fun σ H ⟨G, p, q, ty⟩ => by
  have w := ty.at_ n
  rw [hi] at w
  obtain ⟨l, vs, es, h0, hg, hh, a, z⟩ := w
  refine ⟨.ref l, es, ?_⟩
  rw [e]
  exact k l vs G H p h0 hg hh a z
theorem en_call2N {A : α → β → Prop} {f : α → β → List γ} {E : XK} (h : EG Γ ta R x) (h2 : EG Γ tb S y) (c : A x y) : EN Γ (tCall (sp2N R S A U f) [] E (tCons ta (tCons tb tNil))) U (f x y) := fun H0 σ G H Q h0 s t k =>
  eg_two h h2 h0 s t fun v w G1 H1 p r1 r2 => ⟨v, w, x, y, G1, rfl, p.s, r1, r2, c, fun l vs G2 H2 p2 hl hg hh a z => k l vs G2 H2 (p.trans p2) (p.h.free hl) hg hh a z⟩
end
end TW
set_option Elab.async false
set_option linter.all false
set_option maxRecDepth 100000
set_option maxHeartbeats 4000000
namespace TW
open PySem PySem.Spec PyProof.Rows L2
theorem filter_head {α : Type} (p : α → Bool) : ∀ (xs : List α) (k : Nat), (∃ x ∈ xs, p x = true) → ∃ y ys, (((List.range' k xs.length).map fun (m : Nat) => (m : Int)).zip xs).filter (fun q => p q.2) = y :: ys ∧ y.1 = ((k + xs.findIdx p : Nat) : Int)
  | [], _, h => by obtain ⟨x, hx, _⟩ := h; cases hx
  | x :: xs, k, h => by
    rw [List.length_cons, List.range'_succ, List.map_cons, List.zip_cons_cons, List.filter_cons, List.findIdx_cons]
    by_cases hp : p x = true
    · rw [if_pos hp]
      exact ⟨_, _, rfl, by rw [hp]; rfl⟩
    · rw [if_neg hp]
      obtain ⟨y, ys, e1, e2⟩ := filter_head p xs (k + 1) (by
        obtain ⟨z, hz, hpz⟩ := h
        rcases List.mem_cons.mp hz with rfl | hz
        · exact absurd hpz hp
        · exact ⟨z, hz, hpz⟩)
      refine ⟨y, ys, e1, ?_⟩
      rw [e2, Bool.eq_false_iff.mpr hp, show (k + 1 + xs.findIdx p) = k + (xs.findIdx p + 1) by omega]
      rfl
theorem enum_head {α : Type} (p : α → Bool) (xs : List α) (h : ∃ x ∈ xs, p x = true) : ∃ y ys, (enumL xs).filter (fun q => p q.2) = y :: ys ∧ y.1 = ((xs.findIdx p : Nat) : Int) := by
  have := filter_head p xs 0 h
  rw [← List.range_eq_range'] at this
  rw [Nat.zero_add] at this
  exact this
theorem solPut_none (wide : Int) : ∀ rows : List (List Rat), rows.foldl (solPut wide) none = none
  | [] => rfl
  | r :: rows => by
    rw [List.foldl_cons]
    exact solPut_none wide rows
section
variable {P : Program} {w : World} {K : PySem.W.Frag} {mg : Str → Option Value} {base : Heap}
abbrev s_heads_of : Stmt := (topS 90)
abbrev N_heads_of : List Str := ["room", "row", "place", "number"]
theorem sc_heads_of : FnScope N_heads_of ["room"] (defScope s_heads_of) := ⟨rfl, rfl, rfl, by decide +kernel, rfl, by decide +kernel, by decide +kernel⟩
abbrev T_heads_of (P : Program) (w : World) (K : PySem.W.Frag) (mg : Str → Option Value) (base : Heap) : Prop := Ok P w K mg base "heads_of" 43 ["room"] (sp1 (rL (rL rQ)) A_heads_of (rL rI) m_heads_of)
theorem ok_heads_of (T : Tx P K mg base) (d : Df K mg "heads_of" s_heads_of) (P_sign : T_sign P w K mg base) : T_heads_of P w K mg base := by
  refine mkOk d sc_heads_of (fun _ _ _ _ _ _ us hl => match us, hl with | [_], _ => rfl) len1 fun f cdv A outer s H E hr => ?_
  have nd := sc_heads_of.nd
  refine ⟨_, (pss_one (ps_ret (pe_lc (own := [("row", 1)]) (g := gName 1) (tt := tYes) rfl nd (pi_listK (K := K) rfl (pv 0)) (blkOk_by (by kernel_rfl)) (fun _ _ _ _ _ => (pg_name (i := 1) nd rfl (by first | exact Or.inl rfl | exact Or.inr rfl))) (fun _ _ _ _ _ => pts_nil) (fun _ _ _ _ _ => (pe_ix (ix_listK (K := K) rfl) (pe_lc (own := [("place", 2), ("number", 3)]) rfl nd (pi_enumK (K := K) rfl (by rfl) T.enumerate (pa_cons (pv 1) pa_nil)) (blkOk_by (by kernel_rfl)) (fun _ _ _ _ _ => (pg_tupK (K := K) (n := 2) rfl rfl (pgs_cons (pg_name (i := 2) nd rfl (by first | exact Or.inl rfl | exact Or.inr rfl)) (pgs_cons (pg_name (i := 3) nd rfl (by first | exact Or.inl rfl | exact Or.inr rfl)) pgs_nil)))) (fun _ _ _ _ _ => (pts_one (pt_cmpR op_ne (pe_propO P_sign T.clQ (hr.mono (by decide)) (pv 3) rfl) pe_int (nomark _)))) (fun _ _ _ _ _ => (pv 2))) pe_int (fun _ _ => rfl)))))), fin1 (n := 3) rfl ?_⟩
  intro room G H Q c k
  refine sg_out (en_lc (f := headSign) (ig_list (eg_var 0 rfl)) (by decide) (fun n r hr => ⟨_, gt_name (by decide), ?_⟩)).eg k rfl
  obtain ⟨y, ys, e1, e2⟩ := enum_head (fun q : Rat => decide (q.num.sign ≠ 0)) r (by
    obtain ⟨q, hq, h⟩ := c r (mem_of_at hr)
    exact ⟨q, hq, decide_eq_true h⟩)
  refine eg_ix (en_lcF (fun q : Int × Rat => !decide (q.2.num.sign = 0)) (fun q : Int × Rat => q.1) (ig_enum (eg_var 1 rfl)) (by decide) (fun m q hq => ⟨_, gt_pair (gt_name (by decide)) (gt_name (by decide)), tg_val (eg_ne (eg_prop (eg_var 3 rfl) trivial) eg_int), fun _ => eg_var 2 rfl⟩)).eg eg_int ?_
  have e3 : (enumL r).filter (fun q : Int × Rat => !decide (q.2.num.sign = 0)) = y :: ys := by
    rw [← e1]
    congr 1
    funext q
    simp
  rw [e3, List.map_cons]
  unfold headSign
  rw [← e2]
  exact at_zero
abbrev s_numbers_in : Stmt := (topS 91)
abbrev N_numbers_in : List Str := ["room", "row", "place"]
theorem sc_numbers_in : FnScope N_numbers_in ["room", "row"] (defScope s_numbers_in) := ⟨rfl, rfl, rfl, by decide +kernel, rfl, by decide +kernel, by decide +kernel⟩
abbrev T_numbers_in (P : Program) (w : World) (K : PySem.W.Frag) (mg : Str → Option Value) (base : Heap) : Prop := Ok P w K mg base "numbers_in" 44 ["room", "row"] (sp2 (rL (rL rQ)) (rL rQ) A_numbers_in (rL rQ) m_numbers_in)
theorem ok_numbers_in (T : Tx P K mg base) (d : Df K mg "numbers_in" s_numbers_in) (O_heads_of : T_heads_of P w K mg base) : T_numbers_in P w K mg base := by
  refine mkOk d sc_numbers_in (fun _ _ _ _ _ _ us hl => match us, hl with | [_, _], _ => rfl) len2 fun f cdv A outer s H E hr => ?_
  have nd := sc_numbers_in.nd
  refine ⟨_, (pss_one (ps_ret (pe_lc (own := [("place", 2)]) (g := gName 2) (tt := tYes) rfl nd (pi_listK (K := K) rfl (pe_callO O_heads_of (hr.mono (by decide)) (by rfl) (pa_cons (pv 0) pa_nil))) (blkOk_by (by kernel_rfl)) (fun _ _ _ _ _ => (pg_name (i := 2) nd rfl (by first | exact Or.inl rfl | exact Or.inr rfl))) (fun _ _ _ _ _ => pts_nil) (fun _ _ _ _ _ => (pe_ix (ix_listK (K := K) rfl) (pv 1) (pv 2) (fun _ _ => rfl)))))), fin2 (n := 1) rfl ?_⟩
  intro room row G H Q c k
  refine sg_out (en_lc (f := fun p => atQ row p) (ig_list (eg_call1 (eg_var 0 rfl) c.1)) (by decide) (fun n p hp => ⟨_, gt_name (by decide), eg_ix (eg_var 1 rfl) (eg_var 2 rfl) (atQ_at (c.2 p (mem_of_at hp)).1 (c.2 p (mem_of_at hp)).2)⟩)).eg k rfl
abbrev s_less_room : Stmt := (topS 92)
abbrev N_less_room : List Str := ["room", "row", "found", "often", "step", "number", "other"]
theorem sc_less_room : FnScope N_less_room ["room", "row"] (defScope s_less_room) := ⟨rfl, rfl, rfl, by decide +kernel, rfl, by decide +kernel, by decide +kernel⟩
abbrev T_less_room (P : Program) (w : World) (K : PySem.W.Frag) (mg : Str → Option Value) (base : Heap) : Prop := Ok P w K mg base "less_room" 45 ["room", "row"] (sp2 (rL (rL rQ)) (rL rQ) A_less_room (rL rQ) m_less_room)
theorem ok_less_room (T : Tx P K mg base) (d : Df K mg "less_room" s_less_room) (M_mul : T_mul P w K mg base) (M_sub : T_sub P w K mg base) (P_sign : T_sign P w K mg base) (O_numbers_in : T_numbers_in P w K mg base) : T_less_room P w K mg base := by
  refine mkOk d sc_less_room (fun _ _ _ _ _ _ us hl => match us, hl with | [_, _], _ => rfl) len2 fun f cdv A outer s H E hr => ?_
  have nd := sc_less_room.nd
  refine ⟨_, (pss_cons (ps_set (i := 2) nd rfl (Or.inl rfl) (pe_callTy (call_listK (K := K) rfl) (by rfl) T.list bt_list (pa_cons (pv 1) pa_nil)))
      (pss_cons (ps_for PassesOwn.never rfl (pi_zipK (K := K) rfl (by rfl) T.zip (pa_cons (pe_callO O_numbers_in (hr.mono (by decide)) (by rfl) (pa_cons (pv 0) (pa_cons (pv 1) pa_nil))) (pa_cons (pv 0) pa_nil))) (pg_tupK (K := K) (n := 2) rfl rfl (pgs_cons (pg_name (i := 3) nd rfl (Or.inr rfl)) (pgs_cons (pg_name (i := 4) nd rfl (Or.inl rfl)) pgs_nil))) (pss_one (ps_if (pt_cmpR op_ne (pe_propO P_sign T.clQ (hr.mono (by decide)) (pv 3) rfl) pe_int (nomark _)) (pss_one (ps_setLc (own := [("number", 5), ("other", 6)]) (tt := tYes) (i := 2) rfl nd rfl rfl (sw_true rfl rfl rfl (by kernel_rfl)) (pi_zipK (K := K) rfl (by rfl) T.zip (pa_cons (pv 2) (pa_cons (pv 4) pa_nil))) (blkOk_by (by kernel_rfl)) (fun _ _ _ _ _ => (pg_tupK (K := K) (n := 2) rfl rfl (pgs_cons (pg_name (i := 5) nd rfl (by first | exact Or.inl rfl | exact Or.inr rfl)) (pgs_cons (pg_name (i := 6) nd rfl (by first | exact Or.inl rfl | exact Or.inr rfl)) pgs_nil)))) (fun _ _ _ _ _ => pts_nil) (fun _ _ _ _ _ => (pe_op (op_ownO M_sub T.selfQ (hr.mono (by decide))) (pv 5) (pe_op (op_ownO M_mul T.selfQ (hr.mono (by decide))) (pv 3) (pv 6)))))) pss_nil)))
      (pss_one (ps_ret (pv 2))))), fin2 (n := 5) rfl ?_⟩
  intro room row G H Q c k
  obtain ⟨c1, c2⟩ := c
  refine sg_seq (sg_asg up_true (en_list (eg_var 1 rfl)).eg (nx_go ?_))
  refine sg_seq (sg_for up_true (ig_zip (eg_call2 (eg_var 0 rfl) (eg_var 1 rfl) c1) (eg_var 0 rfl)) (fun n => [.im (rL (rL rQ)) room, .im (rL rQ) row, .im (rL rQ) ((((m_numbers_in room row).zip room).take n).foldl lessPut row), .no, .no, .no, .no])
    ⟨.inr rfl, .inr rfl, .inr rfl, .inl rfl, .inl rfl, .inl rfl, .inl rfl, trivial⟩ (fun n p P' hu hp => ⟨_, gl_pair, ?_⟩) ?_)
  · have e : (((m_numbers_in room row).zip room).take (n + 1)).foldl lessPut row = lessPut ((((m_numbers_in room row).zip room).take n).foldl lessPut row) p := by
      rw [take_succ' hp, List.foldl_append]
      rfl
    have d := c2 n p hp
    generalize hf : (((m_numbers_in room row).zip room).take n).foldl lessPut row = found at *
    refine sg_if (b := !decide (p.1.num.sign = 0)) hu (tg_val (eg_ne (eg_prop (eg_var 3 rfl) trivial) eg_int)) (fun h => ?_) (fun h => ?_)
    · have h' : p.1.num.sign ≠ 0 := by simpa using h
      have d' := d h'
      refine sg_asg hu (en_lc (f := fun x : Rat × Rat => x.1 - p.1 * x.2) (ig_zip (eg_var 2 rfl) (eg_var 4 rfl)) (by decide) (fun m x hx => ⟨_, gt_pair (gt_name (by decide)) (gt_name (by decide)), eg_own (eg_var 5 rfl) (eg_own (eg_var 3 rfl) (eg_var 6 rfl) ⟨(d' x (mem_of_at hx)).2.1, (d' x (mem_of_at hx)).2.2.1⟩) ⟨(d' x (mem_of_at hx)).1, (d' x (mem_of_at hx)).2.2.2⟩⟩)).eg (nx_of rfl ⟨.inr rfl, .inr rfl, .inr ?_, .inl rfl, .inl rfl, .inl rfl, .inl rfl, trivial⟩)
      rw [e]
      unfold lessPut
      rw [if_pos h']
    · have h' : ¬ p.1.num.sign ≠ 0 := by simpa using h
      refine sg_next (nx_of rfl ⟨.inr rfl, .inr rfl, .inr ?_, .inl rfl, .inl rfl, .inl rfl, .inl rfl, trivial⟩)
      rw [e]
      unfold lessPut
      rw [if_neg h']
  · rw [List.take_length]
    exact sg_out (eg_var 2 rfl) k rfl
abbrev s_held : Stmt := (topS 93)
abbrev N_held : List Str := ["room", "row", "number"]
theorem sc_held : FnScope N_held ["room", "row"] (defScope s_held) := ⟨rfl, rfl, rfl, by decide +kernel, rfl, by decide +kernel, by decide +kernel⟩
abbrev T_held (P : Program) (w : World) (K : PySem.W.Frag) (mg : Str → Option Value) (base : Heap) : Prop := Ok P w K mg base "held" 46 ["room", "row"] (sp2 (rL (rL rQ)) (rL rQ) A_held rB m_held)
theorem ok_held (T : Tx P K mg base) (d : Df K mg "held" s_held) (P_sign : T_sign P w K mg base) (O_less_room : T_less_room P w K mg base) : T_held P w K mg base := by
  refine mkOk d sc_held (fun _ _ _ _ _ _ us hl => match us, hl with | [_, _], _ => rfl) len2 fun f cdv A outer s H E hr => ?_
  have nd := sc_held.nd
  refine ⟨_, (pss_one (ps_ret (pe_callB (cr_allK (K := K) rfl rfl) (by rfl) T.all bt_all (pa_cons (pe_lc (own := [("number", 2)]) (g := gName 2) (tt := tYes) rfl nd (pi_listK (K := K) rfl (pe_callO O_less_room (hr.mono (by decide)) (by rfl) (pa_cons (pv 0) (pa_cons (pv 1) pa_nil)))) (blkOk_by (by kernel_rfl)) (fun _ _ _ _ _ => (pg_name (i := 2) nd rfl (by first | exact Or.inl rfl | exact Or.inr rfl))) (fun _ _ _ _ _ => pts_nil) (fun _ _ _ _ _ => (pe_cmpR op_eq (pe_propO P_sign T.clQ (hr.mono (by decide)) (pv 2) rfl) pe_int (nomark _)))) pa_nil)))), fin2 (n := 1) rfl ?_⟩
  intro room row G H Q c k
  refine sg_out (eg_all (en_lc (f := fun q : Rat => decide (q.num.sign = 0)) (ig_list (eg_call2 (eg_var 0 rfl) (eg_var 1 rfl) c)) (by decide) (fun n q hq => ⟨_, gt_name (by decide), eg_eq (eg_prop (eg_var 2 rfl) trivial) eg_int⟩)).eg) (k.cast ?_) rfl
  unfold m_held
  rw [List.all_map]
  rfl
abbrev m_first_out (h : Hou) (room : List (List Rat)) : Option (Int × Int) := none
abbrev T_first_out' := True
abbrev A_is_kept (h : Hou) (room : List (List Rat)) : Prop := A_first_out h room
abbrev m_is_kept (h : Hou) (room : List (List Rat)) : Bool := true
abbrev s_first_out : Stmt := (topS 94)
abbrev N_first_out : List Str := ["house", "room", "position", "step", "at", "letter"]
theorem sc_first_out : FnScope N_first_out ["house", "room"] (defScope s_first_out) := ⟨rfl, rfl, rfl, by decide +kernel, rfl, by decide +kernel, by decide +kernel⟩
abbrev T_first_out (P : Program) (w : World) (K : PySem.W.Frag) (mg : Str → Option Value) (base : Heap) : Prop := Ok P w K mg base "first_out" 47 ["house", "room"] (sp2 rH (rL (rL rQ)) A_first_out (rO (rP rI rI)) m_first_out)
theorem ok_first_out (T : Tx P K mg base) (d : Df K mg "first_out" s_first_out) (O_held : T_held P w K mg base) (O_led_by : T_led_by P w K mg base) : T_first_out P w K mg base := by
  refine mkOk d sc_first_out (fun _ _ _ _ _ _ us hl => match us, hl with | [_, _], _ => rfl) len2 fun f cdv A outer s H E hr => ?_
  have nd := sc_first_out.nd
  refine ⟨_, (pss_cons (ps_for PassesOwn.never rfl (pi_enumK (K := K) rfl (by rfl) T.enumerate (pa_cons (pv 1) pa_nil)) (pg_tupK (K := K) (n := 2) rfl rfl (pgs_cons (pg_name (i := 2) nd rfl (Or.inl rfl)) (pgs_cons (pg_name (i := 3) nd rfl (Or.inl rfl)) pgs_nil))) (pss_one (ps_for PassesOwn.never rfl (pi_enumK (K := K) rfl (by rfl) T.enumerate (pa_cons (pe_fldK (K := K) rfl (pv 0) rfl) pa_nil)) (pg_tupK (K := K) (n := 2) rfl rfl (pgs_cons (pg_name (i := 4) nd rfl (Or.inl rfl)) (pgs_cons (pg_name (i := 5) nd rfl (Or.inl rfl)) pgs_nil))) (pss_one (ps_if (pt_not (pt_val (pe_callO O_held (hr.mono (by decide)) (by rfl) (pa_cons (pv 1) (pa_cons (pe_callO O_led_by (hr.mono (by decide)) (by rfl) (pa_cons (pv 3) (pa_cons (pv 5) pa_nil))) pa_nil))))) (pss_one (ps_ret (pe_tup (pa_cons (pv 2) (pa_cons (pv 4) pa_nil))))) pss_nil)))))
      (pss_one (ps_ret pe_non))), fin2 (n := 4) rfl ?_⟩
  intro h room G H Q c k
  refine sg_seq (sg_for up_true (ig_enum (eg_var 1 rfl)) (fun n => [.im rH h, .im (rL (rL rQ)) room, .no, .no, .no, .no]) ⟨.inr rfl, .inr rfl, .inl rfl, .inl rfl, .inl rfl, .inl rfl, trivial⟩ (fun n p P' hu hp => ⟨_, gl_pair, ?_⟩) ?_)
  · have ms : p.2 ∈ room := (List.of_mem_zip (mem_of_at hp)).2
    refine sg_for hu (ig_enum (eg_letters T.clH T.nlH (eg_var 0 rfl))) (fun n => [.im rH h, .im (rL (rL rQ)) room, .im rI p.1, .im (rL rQ) p.2, .no, .no]) ⟨.inr rfl, .inr rfl, .inr rfl, .inr rfl, .inl rfl, .inl rfl, trivial⟩ (fun m q P2 hu2 hq => ⟨_, gl_pair, ?_⟩) ?_
    · have ml : q.2 ∈ h.ls := (List.of_mem_zip (mem_of_at hq)).2
      obtain ⟨d1, d2, d3⟩ := c p.2 ms q.2 ml
      exact sg_ifF hu2 (tg_not (tg_B (eg_call2 (eg_var 1 rfl) (eg_call2 (eg_var 3 rfl) (eg_var 5 rfl) d1) d2))) (by rw [d3]; rfl) (sg_next (nx_of rfl ⟨.inr rfl, .inr rfl, .inr rfl, .inr rfl, .inl rfl, .inl rfl, trivial⟩))
    · exact nx_of rfl ⟨.inr rfl, .inr rfl, .inl rfl, .inl rfl, .inl rfl, .inl rfl, trivial⟩
  · exact nx_go (sg_out (eg_non (R := rP rI rI)) k rfl)
abbrev s_is_kept : Stmt := (topS 95)
abbrev N_is_kept : List Str := ["house", "room"]
theorem sc_is_kept : FnScope N_is_kept ["house", "room"] (defScope s_is_kept) := ⟨rfl, rfl, rfl, by decide +kernel, rfl, by decide +kernel, by decide +kernel⟩
abbrev T_is_kept (P : Program) (w : World) (K : PySem.W.Frag) (mg : Str → Option Value) (base : Heap) : Prop := Ok P w K mg base "is_kept" 48 ["house", "room"] (sp2 rH (rL (rL rQ)) A_is_kept rB m_is_kept)
theorem ok_is_kept (T : Tx P K mg base) (d : Df K mg "is_kept" s_is_kept) (O_first_out : T_first_out P w K mg base) : T_is_kept P w K mg base := by
  refine mkOk d sc_is_kept (fun _ _ _ _ _ _ us hl => match us, hl with | [_, _], _ => rfl) len2 fun f cdv A outer s H E hr => ?_
  have nd := sc_is_kept.nd
  refine ⟨_, (pss_one (ps_ret (pe_cmp (pc_isN (pe_callO O_first_out (hr.mono (by decide)) (by rfl) (pa_cons (pv 0) (pa_cons (pv 1) pa_nil))))))), fin2 (n := 0) rfl ?_⟩
  intro h room G H Q c k
  exact sg_out (eg_isN nn_P (eg_call2 (eg_var 0 rfl) (eg_var 1 rfl) c)) k rfl
abbrev s_rows_in : Stmt := (topS 96)
abbrev N_rows_in : List Str := ["house", "value", "row", "number"]
theorem sc_rows_in : FnScope N_rows_in ["house", "value"] (defScope s_rows_in) := ⟨rfl, rfl, rfl, by decide +kernel, rfl, by decide +kernel, by decide +kernel⟩
abbrev T_rows_in (P : Program) (w : World) (K : PySem.W.Frag) (mg : Str → Option Value) (base : Heap) : Prop := Ok P w K mg base "rows_in" 45 ["house", "value"] (sp2 rH (rL (rL rNV)) A_rows_in (rO (rL (rL rQ))) m_rows_in)
theorem ok_rows_in (T : Tx P K mg base) (d : Df K mg "rows_in" s_rows_in) (O_is_list : T_is_list P w K mg base) (O_are_numbers : T_are_numbers P w K mg base) (O_ratio_of : T_ratio_of P w K mg base) : T_rows_in P w K mg base := by
  refine mkOk d sc_rows_in (fun _ _ _ _ _ _ us hl => match us, hl with | [_, _], _ => rfl) len2 fun f cdv A outer s H E hr => ?_
  have nd := sc_rows_in.nd
  refine ⟨_, (pss_cons (ps_if (PW.pt (pw_or (pt_not (pt_val (pe_callO O_is_list (hr.mono (by decide)) (by rfl) (pa_cons (pv 1) pa_nil)))) (pw_or1 (pt_cmpR op_gt (pe_callB (call_lenK (K := K) rfl) (by rfl) T.len bt_len (pa_cons (pv 1) pa_nil)) (pe_globI (by rfl) T.n_MOST_ROWS) (nomark _))))) (pss_one (ps_ret pe_non)) pss_nil)
      (pss_cons (ps_if (pt_not (pt_val (pe_callB (cr_allK (K := K) rfl rfl) (by rfl) T.all bt_all (pa_cons (pe_lc (own := [("row", 2)]) (g := gName 2) (tt := tYes) rfl nd (pi_listK (K := K) rfl (pv 1)) (blkOk_by (by kernel_rfl)) (fun _ _ _ _ _ => (pg_name (i := 2) nd rfl (by first | exact Or.inl rfl | exact Or.inr rfl))) (fun _ _ _ _ _ => pts_nil) (fun _ _ _ _ _ => (pe_callO O_are_numbers (hr.mono (by decide)) (by rfl) (pa_cons (pv 2) (pa_cons (pe_fldK (K := K) rfl (pv 0) rfl) pa_nil))))) pa_nil)))) (pss_one (ps_ret pe_non)) pss_nil)
      (pss_one (ps_ret (pe_lc (own := [("row", 2)]) (g := gName 2) (tt := tYes) rfl nd (pi_listK (K := K) rfl (pv 1)) (blkOk_by (by kernel_rfl)) (fun _ _ _ _ _ => (pg_name (i := 2) nd rfl (by first | exact Or.inl rfl | exact Or.inr rfl))) (fun _ _ _ _ _ => pts_nil) (fun _ _ _ _ _ => (pe_lc (own := [("number", 3)]) (g := gName 3) (tt := tYes) rfl nd (pi_listK (K := K) rfl (pv 2)) (blkOk_by (by kernel_rfl)) (fun _ _ _ _ _ => (pg_name (i := 3) nd rfl (by first | exact Or.inl rfl | exact Or.inr rfl))) (fun _ _ _ _ _ => pts_nil) (fun _ _ _ _ _ => (pe_callO O_ratio_of (hr.mono (by decide)) (by rfl) (pa_cons (pv 3) pa_nil)))))))))), fin2 (n := 2) rfl ?_⟩
  intro h v G H Q c k
  obtain ⟨c1, c2⟩ := c
  refine sg_seq (sg_ifF (b := false || decide ((40 : Int) < (v.length : Int))) up_true (tg_or (tg_not (tg_B (eg_call1 ((eg_var 1 rfl).as fun G v r => rL_ls r) trivial))) (fun _ => tg_val (eg_gt (eg_len (eg_var 1 rfl)) eg_int))) ?_ (sg_next (nx_go ?_)))
  · rw [Bool.false_or]
    exact decide_eq_false (by omega)
  refine sg_seq (sg_ifF (b := !((v.map fun r => m_are_numbers r (h.n : Int)).all id)) up_true (tg_not (tg_B (eg_all (en_lc (f := fun r : List NumV => m_are_numbers r (h.n : Int)) (ig_list (eg_var 1 rfl)) (by decide) (fun n r hr => ⟨_, gt_name (by decide), eg_call2 (eg_var 2 rfl) (eg_width T.clH T.nwH (eg_var 0 rfl)) trivial⟩)).eg))) ?_ (sg_next (nx_go ?_)))
  · have : (v.map fun r => m_are_numbers r (h.n : Int)).all id = true := by
      rw [List.all_map, List.all_eq_true]
      intro r hr
      unfold m_are_numbers
      simp [c2 r hr]
    rw [this]
    rfl
  · exact sg_out (eg_some (en_lc (f := fun r : List NumV => r.map m_ratio_of) (ig_list (eg_var 1 rfl)) (by decide) (fun n r hr => ⟨_, gt_name (by decide), (en_lc (f := m_ratio_of) (ig_list (eg_var 2 rfl)) (by decide) (fun m x hx => ⟨_, gt_name (by decide), eg_call1 (eg_var 3 rfl) trivial⟩)).eg⟩)).eg) k rfl
abbrev m_room_in (h : Hou) (v : NTab) : Option (List (List Rat)) := some (ratT v)
abbrev s_room_in : Stmt := (topS 97)
abbrev N_room_in : List Str := ["house", "value", "found"]
theorem sc_room_in : FnScope N_room_in ["house", "value"] (defScope s_room_in) := ⟨rfl, rfl, rfl, by decide +kernel, rfl, by decide +kernel, by decide +kernel⟩
abbrev T_room_in (P : Program) (w : World) (K : PySem.W.Frag) (mg : Str → Option Value) (base : Heap) : Prop := Ok P w K mg base "room_in" 49 ["house", "value"] (sp2 rH (rL (rL rNV)) A_room_in (rO (rL (rL rQ))) m_room_in)
theorem ok_room_in (T : Tx P K mg base) (d : Df K mg "room_in" s_room_in) (M_eq : T_eq P w K mg base) (O_rows_in : T_rows_in P w K mg base) (O_is_kept : T_is_kept P w K mg base) (O_steps_of : T_steps_of P w K mg base) : T_room_in P w K mg base := by
  refine mkOk d sc_room_in (fun _ _ _ _ _ _ us hl => match us, hl with | [_, _], _ => rfl) len2 fun f cdv A outer s H E hr => ?_
  have nd := sc_room_in.nd
  refine ⟨_, (pss_cons (ps_set (i := 2) nd rfl (Or.inl rfl) (pe_callO O_rows_in (hr.mono (by decide)) (by rfl) (pa_cons (pv 0) (pa_cons (pv 1) pa_nil))))
      (pss_cons (ps_if (PW.pt (pw_or (pt_cmp (pc_isN (pv 2))) (pw_or (pt_cmpR (op_neQ M_eq (hr.mono (by decide))) (pe_callO O_steps_of (hr.mono (by decide)) (by rfl) (pa_cons (pv 2) pa_nil)) (pv 2) (nomark _)) (pw_or1 (pt_not (pt_val (pe_callO O_is_kept (hr.mono (by decide)) (by rfl) (pa_cons (pv 0) (pa_cons (pv 2) pa_nil))))))))) (pss_one (ps_ret pe_non)) pss_nil)
      (pss_one (ps_ret (pv 2))))), fin2 (n := 1) rfl ?_⟩
  intro h v G H Q c k
  obtain ⟨c1, c2, c3, c4⟩ := c
  refine sg_seq (sg_asg up_true (eg_call2 (eg_var 0 rfl) (eg_var 1 rfl) c1) (nx_go ?_))
  refine sg_seq (sg_ifF (b := (m_rows_in h v).isNone || (false || !true)) up_true (tg_or (tg_B (eg_isN nn_L (eg_var 2 rfl))) (fun _ => tg_or (tg_val (eg_neQ ((eg_call1 (eg_unsome (eg_var 2 rfl)) c2).cast c3) (eg_unsome (eg_var 2 rfl)))) (fun _ => tg_not (tg_B (eg_call2 (eg_var 0 rfl) (eg_unsome (eg_var 2 rfl)) c4))))) rfl (sg_next (nx_go ?_)))
  exact sg_out (eg_var 2 rfl) k rfl
abbrev A_want_kept (h : Hou) (v : NTab) : Prop := A_room_in h v
abbrev m_want_kept (h : Hou) (v : NTab) : List (List Rat) := ratT v
abbrev s_want_kept : Stmt := (topS 98)
abbrev N_want_kept : List Str := ["house", "value", "found"]
theorem sc_want_kept : FnScope N_want_kept ["house", "value"] (defScope s_want_kept) := ⟨rfl, rfl, rfl, by decide +kernel, rfl, by decide +kernel, by decide +kernel⟩
abbrev T_want_kept (P : Program) (w : World) (K : PySem.W.Frag) (mg : Str → Option Value) (base : Heap) : Prop := Ok P w K mg base "want_kept" 50 ["house", "value"] (sp2 rH (rL (rL rNV)) A_want_kept (rL (rL rQ)) m_want_kept)
theorem ok_want_kept (T : Tx P K mg base) (d : Df K mg "want_kept" s_want_kept) (O_room_in : T_room_in P w K mg base) : T_want_kept P w K mg base := by
  refine mkOk d sc_want_kept (fun _ _ _ _ _ _ us hl => match us, hl with | [_, _], _ => rfl) len2 fun f cdv A outer s H E hr => ?_
  have nd := sc_want_kept.nd
  refine ⟨_, (pss_cons (ps_set (i := 2) nd rfl (Or.inl rfl) (pe_callO O_room_in (hr.mono (by decide)) (by rfl) (pa_cons (pv 0) (pa_cons (pv 1) pa_nil))))
      (pss_cons (ps_if (pt_cmp (pc_isN (pv 2))) pss_never pss_nil)
      (pss_one (ps_ret (pv 2))))), fin2 (n := 1) rfl ?_⟩
  intro h v G H Q c k
  refine sg_seq (sg_asg up_true (eg_call2 (eg_var 0 rfl) (eg_var 1 rfl) c) (nx_go ?_))
  refine sg_seq (sg_ifF up_true (tg_B (eg_isN nn_L (eg_var 2 rfl))) rfl (sg_next (nx_go ?_)))
  exact sg_out (eg_unsome (eg_var 2 rfl)) k rfl
abbrev s_cut_of : Stmt := (topS 100)
abbrev N_cut_of : List Str := ["house", "room", "letter", "step"]
theorem sc_cut_of : FnScope N_cut_of ["house", "room"] (defScope s_cut_of) := ⟨rfl, rfl, rfl, by decide +kernel, rfl, by decide +kernel, by decide +kernel⟩
abbrev T_cut_of (P : Program) (w : World) (K : PySem.W.Frag) (mg : Str → Option Value) (base : Heap) : Prop := Ok P w K mg base "cut_of" 50 ["house", "room"] (sp2 rH (rL (rL rQ)) A_cut_of rH m_cut_of)
theorem ok_cut_of (T : Tx P K mg base) (d : Df K mg "cut_of" s_cut_of) (O_house_of : T_house_of P w K mg base) (O_numbers_in : T_numbers_in P w K mg base) (O_led_by : T_led_by P w K mg base) : T_cut_of P w K mg base := by
  refine mkOk d sc_cut_of (fun _ _ _ _ _ _ us hl => match us, hl with | [_, _], _ => rfl) len2 fun f cdv A outer s H E hr => ?_
  have nd := sc_cut_of.nd
  refine ⟨_, (pss_one (ps_ret (pe_callO O_house_of (hr.mono (by decide)) (by rfl) (pa_cons (pe_lc (own := [("letter", 2)]) (g := gName 2) (tt := tYes) rfl nd (pi_listK (K := K) rfl (pe_fldK (K := K) rfl (pv 0) rfl)) (blkOk_by (by kernel_rfl)) (fun _ _ _ _ _ => (pg_name (i := 2) nd rfl (by first | exact Or.inl rfl | exact Or.inr rfl))) (fun _ _ _ _ _ => pts_nil) (fun _ _ _ _ _ => (pe_lc (own := [("step", 3)]) (g := gName 3) (tt := tYes) rfl nd (pi_listK (K := K) rfl (pv 1)) (blkOk_by (by kernel_rfl)) (fun _ _ _ _ _ => (pg_name (i := 3) nd rfl (by first | exact Or.inl rfl | exact Or.inr rfl))) (fun _ _ _ _ _ => pts_nil) (fun _ _ _ _ _ => (pe_callO O_numbers_in (hr.mono (by decide)) (by rfl) (pa_cons (pv 1) (pa_cons (pe_callO O_led_by (hr.mono (by decide)) (by rfl) (pa_cons (pv 3) (pa_cons (pv 2) pa_nil))) pa_nil))))))) pa_nil)))), fin2 (n := 2) rfl ?_⟩
  intro h room G H Q c k
  exact sg_out (eg_call1 (en_lc (f := fun l => room.map fun s => m_numbers_in room (m_led_by s l)) (ig_list (eg_letters T.clH T.nlH (eg_var 0 rfl))) (by decide) (fun n l hl => ⟨_, gt_name (by decide), (en_lc (f := fun s => m_numbers_in room (m_led_by s l)) (ig_list (eg_var 1 rfl)) (by decide) (fun m s hs => ⟨_, gt_name (by decide), eg_call2 (eg_var 1 rfl) (eg_call2 (eg_var 3 rfl) (eg_var 2 rfl) (c.1 l (mem_of_at hl) s (mem_of_at hs)).1) (c.1 l (mem_of_at hl) s (mem_of_at hs)).2⟩)).eg⟩)).eg c.2) k rfl
end
end TW
set_option Elab.async false
set_option linter.all false
set_option maxRecDepth 100000
set_option maxHeartbeats 4000000
namespace TW
open PySem PySem.Spec PyProof.Rows L2
theorem ix_in2 {n m a b : Nat} (ha : a < n) (hb : b < m) : 0 ≤ (a : Int) * (m : Int) + (b : Int) ∧ ((a : Int) * (m : Int) + (b : Int)).toNat < n * m := by
  have e : (a : Int) * (m : Int) + (b : Int) = ((a * m + b : Nat) : Int) := by simp
  rw [e, Int.toNat_natCast]
  refine ⟨Int.natCast_nonneg _, ?_⟩
  have h1 : (a + 1) * m ≤ n * m := Nat.mul_le_mul_right m ha
  rw [Nat.succ_mul] at h1
  omega
theorem sets_len {β : Type} (f : β → Int) (g : β → Rat) : ∀ (is : List β) (row : List Rat), (is.foldl (fun row a => row.set (f a).toNat (g a)) row).length = row.length
  | [], _ => rfl
  | i :: is, row => by rw [List.foldl_cons, sets_len f g is, List.length_set]
theorem evens_len (small : Tab) (line place : Int) : ∀ (is : List Int) (row : List Rat), (is.foldl (evenStep small line place) row).length = row.length
  | [], _ => rfl
  | i :: is, row => by
    rw [List.foldl_cons, evens_len small line place is]
    unfold evenStep
    rw [List.length_set]
theorem zeroQ : (0 : Rat) = Rat.divInt 0 1 := (rat_int 0).symm
theorem cut_last {α : Type} (r : List α) (h : r ≠ []) : cutL r none (some (-1)) = r.dropLast := by
  have hl : 0 < r.length := List.length_pos_iff.mpr h
  unfold cutL HT.sIx
  rw [List.dropLast_eq_take]
  have e : ((-1 : Int) + (r.length : Int)).toNat = r.length - 1 := by omega
  simp only [if_pos (show (-1 : Int) < 0 by decide), e]
  simp
theorem at_last {r : List Rat} (h : r ≠ []) : L2.atI r (-1) = some (lastQ r) := by
  have hl : 0 < r.length := List.length_pos_iff.mpr h
  unfold L2.atI ixN lastQ
  rw [if_neg (by decide), if_pos (by omega)]
  have e : ((-1 : Int) + (r.length : Int)).toNat = r.length - 1 := by omega
  show r[((-1 : Int) + (r.length : Int)).toNat]? = _
  rw [e, ← List.getLast?_eq_getElem?, List.getLast?_eq_some_getLast h]
  rfl
section
variable {P : Program} {w : World} {K : PySem.W.Frag} {mg : Str → Option Value} {base : Heap}
abbrev s_solution_of : Stmt := (topS 41)
abbrev N_solution_of : List Str := ["rows", "goals", "wide", "solved", "found", "row", "head", "goal", "number"]
theorem sc_solution_of : FnScope N_solution_of ["rows", "goals"] (defScope s_solution_of) := ⟨rfl, rfl, rfl, by decide +kernel, rfl, by decide +kernel, by decide +kernel⟩
abbrev T_solution_of (P : Program) (w : World) (K : PySem.W.Frag) (mg : Str → Option Value) (base : Heap) : Prop := Ok P w K mg base "solution_of" 46 ["rows", "goals"] (sp2 (rL (rL rQ)) (rL rQ) A_solution_of (rO (rL rQ)) m_solution_of)
theorem ok_solution_of (T : Tx P K mg base) (d : Df K mg "solution_of" s_solution_of) (MQ : MkQ P w K mg base 42) (P_top : T_top P w K mg base) (O_steps_of : T_steps_of P w K mg base) (O_head_of : T_head_of P w K mg base) : T_solution_of P w K mg base := by
  refine mkOk d sc_solution_of (fun _ _ _ _ _ _ us hl => match us, hl with | [_, _], _ => rfl) len2 fun f cdv A outer s H E hr => ?_
  have nd := sc_solution_of.nd
  refine ⟨_, (pss_cons (ps_set (i := 2) nd rfl (Or.inl rfl) (pe_callB (call_lenK (K := K) rfl) (by rfl) T.len bt_len (pa_cons (pe_ix (ix_listK (K := K) rfl) (pv 0) pe_int (fun _ _ => rfl)) pa_nil)))
      (pss_cons (ps_set (i := 3) nd rfl (Or.inl rfl) (pe_callO O_steps_of (hr.mono (by decide)) (by rfl) (pa_cons (pe_lc (own := [("row", 5), ("goal", 7)]) (tt := tYes) rfl nd (pi_zipK (K := K) rfl (by rfl) T.zip (pa_cons (pv 0) (pa_cons (pv 1) pa_nil))) (blkOk_by (by kernel_rfl)) (fun _ _ _ _ _ => (pg_tupK (K := K) (n := 2) rfl rfl (pgs_cons (pg_name (i := 5) nd rfl (by first | exact Or.inl rfl | exact Or.inr rfl)) (pgs_cons (pg_name (i := 7) nd rfl (by first | exact Or.inl rfl | exact Or.inr rfl)) pgs_nil)))) (fun _ _ _ _ _ => pts_nil) (fun _ _ _ _ _ => (pe_op op_cat (pv 5) (pe_lst (pa_cons (pv 7) pa_nil))))) pa_nil)))
      (pss_cons (ps_set (i := 4) nd rfl (Or.inl rfl) (pe_op op_rep (pe_lst (pa_cons (pe_mkQ1 MQ T.g_Ratio (hr.mono (by decide)) (by rfl) (pa_cons pe_int pa_nil)) pa_nil)) (pv 2)))
      (pss_cons (ps_for PassesOwn.never rfl (pi_listK (K := K) rfl (pv 3)) (pg_name (i := 5) nd rfl (Or.inl rfl)) (pss_cons (ps_set (i := 6) nd rfl (Or.inl rfl) (pe_callO O_head_of (hr.mono (by decide)) (by rfl) (pa_cons (pe_lc (own := [("number", 8)]) (g := gName 8) (tt := tYes) rfl nd (pi_listK (K := K) rfl (pv 5)) (blkOk_by (by kernel_rfl)) (fun _ _ _ _ _ => (pg_name (i := 8) nd rfl (by first | exact Or.inl rfl | exact Or.inr rfl))) (fun _ _ _ _ _ => pts_nil) (fun _ _ _ _ _ => (pe_propO P_top T.clQ (hr.mono (by decide)) (pv 8) rfl))) pa_nil)))
      (pss_cons (ps_if (pt_cmpR op_eq (pv 6) (pv 2) (nomark _)) (pss_one (ps_ret pe_non)) pss_nil)
      (pss_one (ps_asg (pe_ix (ix_listK (K := K) rfl) (pv 5) (pv 2) (fun _ _ => rfl)) (pg_sub (pv 4) (pv 6) set_list))))))
      (pss_one (ps_ret (pv 4))))))), fin2 (n := 7) rfl ?_⟩
  intro rows goals G H Q c k
  obtain ⟨c1, c2, c3, c4⟩ := c
  obtain ⟨r0, rs, rfl⟩ := List.exists_cons_of_ne_nil c1
  generalize hrows : r0 :: rs = rows at *
  have at0' : L2.atI rows 0 = some r0 := by rw [← hrows]; exact at_zero
  have wq : wideQ rows = r0.length := by rw [← hrows]; rfl
  have z0 : r0.length + 1 < big := c2 r0 (by rw [← hrows]; exact List.mem_cons_self ..)
  refine sg_seq (sg_asg up_true ((eg_len (eg_ix (eg_var 0 rfl) eg_int at0')).cast (x' := (wideQ rows : Int)) (by rw [wq])) (nx_go ?_))
  refine sg_seq (sg_asg up_true (eg_call1 (en_lc (f := fun p : List Rat × Rat => p.1 ++ [p.2]) (ig_zip (eg_var 0 rfl) (eg_var 1 rfl)) (by decide) (fun n p hp => ⟨_, gt_pair (gt_name (by decide)) (gt_name (by decide)), (en_cat (eg_var 5 rfl) (en_lst (er_cons (eg_var 7 rfl) er_nil) (show 1 < big by decide)).eg (c2 p.1 (List.of_mem_zip (mem_of_at hp)).1)).eg⟩)).eg c3) (nx_go ?_))
  refine sg_seq (sg_own up_true (by simp [nos, st]) ((en_rep (en_lst (er_cons ((eg_mkQ1 eg_int).cast zeroQ.symm) er_nil) (show 1 < big by decide)).eg (eg_var 2 rfl) (by omega) (by unfold big at z0; omega)).cast (xs' := List.replicate (wideQ rows) 0) (by rw [Int.toNat_natCast])) (nx_go ?_))
  have go : ∀ n, (((m_steps_of (sideRows rows goals)).take n).foldl (solPut (wideQ rows : Int)) (some (List.replicate (wideQ rows) 0))).isSome = true → ((((m_steps_of (sideRows rows goals)).take n).foldl (solPut (wideQ rows : Int)) (some (List.replicate (wideQ rows) 0))).getD []).length = wideQ rows := by
    intro n
    induction n with
    | zero => intro _; simp
    | succ n ih =>
      intro h
      cases hr : (m_steps_of (sideRows rows goals))[n]? with
      | none =>
        rw [List.getElem?_eq_none_iff] at hr
        rw [List.take_of_length_le (by omega)] at h ⊢
        rw [List.take_of_length_le (by omega)] at ih
        exact ih h
      | some r =>
        rw [take_succ' hr, List.foldl_append] at h ⊢
        generalize hs : ((m_steps_of (sideRows rows goals)).take n).foldl (solPut (wideQ rows : Int)) (some (List.replicate (wideQ rows) 0)) = T0 at h ih ⊢
        cases T0 with
        | none => cases h
        | some f =>
          have ihf := ih rfl
          simp only [List.foldl_cons, List.foldl_nil, solPut] at h ⊢
          split at h
          · cases h
          · rename_i hne
            rw [if_neg hne]
            simpa using ihf
  refine sg_seq (sg_forJ up_true (ig_list (eg_var 3 rfl)) (fun n => [.im rT rows, .im (rL rQ) goals, .im rI (wideQ rows : Int), .im rT (m_steps_of (sideRows rows goals)), .own rQ ((((m_steps_of (sideRows rows goals)).take n).foldl (solPut (wideQ rows : Int)) (some (List.replicate (wideQ rows) 0))).getD []), .no, .no, .no, .no])
    (fun n => (((m_steps_of (sideRows rows goals)).take n).foldl (solPut (wideQ rows : Int)) (some (List.replicate (wideQ rows) 0))).isSome = true) ⟨.inr rfl, .inr rfl, .inr rfl, .inr rfl, .inr rfl, .inl rfl, .inl rfl, .inl rfl, .inl rfl, trivial⟩ rfl (fun n r P' hu j hr => ⟨_, gl_name, ?_⟩) fun j => ?_)
  · replace hr : (m_steps_of (sideRows rows goals))[n]? = some r := hr
    have cr := c4 r (mem_of_at hr)
    have ln := go n j
    have spf : ∀ f, solPut (wideQ rows : Int) (some f) r = if m_head_of (nums r) = (wideQ rows : Int) then none else some (f.set (m_head_of (nums r)).toNat (atQ r (wideQ rows : Int))) := fun _ => rfl
    obtain ⟨f, hf⟩ := Option.isSome_iff_exists.mp j
    have e : ((m_steps_of (sideRows rows goals)).take (n + 1)).foldl (solPut (wideQ rows : Int)) (some (List.replicate (wideQ rows) 0)) = solPut (wideQ rows : Int) (some f) r := by
      rw [take_succ' hr, List.foldl_append, hf]
      rfl
    have hall : m_solution_of rows goals = ((m_steps_of (sideRows rows goals)).drop (n + 1)).foldl (solPut (wideQ rows : Int)) (solPut (wideQ rows : Int) (some f) r) := by
      unfold m_solution_of
      rw [← e, ← List.foldl_append, List.take_append_drop]
    rw [hf] at ln ⊢
    simp only [Option.getD_some] at ln ⊢
    have hh := head_lt cr.1
    unfold nums at hh
    rw [List.length_map, cr.2] at hh
    refine sg_seq (sg_asg hu (eg_call1 (en_lc (f := fun q : Rat => q.num) (ig_list (eg_var 5 rfl)) (by decide) (fun m b hb => ⟨_, gt_name (by decide), eg_prop (eg_var 8 rfl) trivial⟩)).eg cr.1) (nx_go ?_))
    refine sg_seq (sg_if (b := decide (m_head_of (nums r) = (wideQ rows : Int))) hu (tg_val (eg_eq (eg_var 6 rfl) (eg_var 2 rfl))) (fun h => ?_) (fun h => sg_next (nx_go ?_)))
    · have h' := of_decide_eq_true h
      refine sg_out (eg_non (R := rL rQ)) (k.cast ?_) rfl
      rw [hall, spf, if_pos h']
      exact solPut_none _ _
    · have h' := of_decide_eq_false h
      have e2 : solPut (wideQ rows : Int) (some f) r = some (f.set (m_head_of (nums r)).toNat (atQ r (wideQ rows : Int))) := by
        rw [spf, if_neg h']
      have hd := head_nn (nums r)
      have hlt : (m_head_of (nums r)).toNat < wideQ rows := by
        have : (m_head_of (nums r)).toNat ≠ wideQ rows := fun z => h' (by omega)
        unfold nums at *
        omega
      refine sg_set (n := 4) hu rfl (eg_ix (eg_var 5 rfl) (eg_var 2 rfl) (atQ_at (by omega) (by rw [Int.toNat_natCast, cr.2]; omega))) (eg_var 6 rfl) (ixN_pos hd (by rw [ln]; exact hlt)) (nx_ofJ rfl ⟨.inr rfl, .inr rfl, .inr rfl, .inr rfl, .inr ?_, .inl rfl, .inl rfl, .inl rfl, .inl rfl, trivial⟩ ?_)
      · rw [e, e2]
        rfl
      · rw [e, e2]
        rfl
  · have tk : (m_steps_of (sideRows rows goals)).take (m_steps_of ((rows.zip goals).map fun p => p.1 ++ [p.2])).length = m_steps_of (sideRows rows goals) := List.take_length
    rw [tk] at j ⊢
    obtain ⟨f, hf⟩ := Option.isSome_iff_exists.mp j
    rw [hf]
    refine sg_freeze (n := 4) up_true rfl (sg_out (eg_some (eg_var 4 rfl)) (k.cast ?_) rfl)
    unfold m_solution_of
    rw [hf]
    rfl
abbrev s_held_rows : Stmt := (topS 102)
abbrev N_held_rows : List Str := ["room", "size", "many", "found", "line", "step", "place", "row", "at"]
theorem sc_held_rows : FnScope N_held_rows ["room", "size"] (defScope s_held_rows) := ⟨rfl, rfl, rfl, by decide +kernel, rfl, by decide +kernel, by decide +kernel⟩
abbrev T_held_rows (P : Program) (w : World) (K : PySem.W.Frag) (mg : Str → Option Value) (base : Heap) : Prop := Ok P w K mg base "held_rows" 44 ["room", "size"] (sp2N (rL (rL rQ)) rI A_held_rows (rL rQ) m_held_rows)
theorem ok_held_rows (T : Tx P K mg base) (d : Df K mg "held_rows" s_held_rows) (MQ : MkQ P w K mg base 42) : T_held_rows P w K mg base := by
  refine mkOk d sc_held_rows (fun _ _ _ _ _ _ us hl => match us, hl with | [_, _], _ => rfl) len2N fun f cdv A outer s H E hr => ?_
  have nd := sc_held_rows.nd
  refine ⟨_, (pss_cons (ps_par (i := 2) (j := 3) rfl nd rfl rfl (by decide) rfl rfl (pa_cons (pe_callB (call_lenK (K := K) rfl) (by rfl) T.len bt_len (pa_cons (pv 0) pa_nil)) (pa_cons (pe_lst pa_nil) pa_nil)) (by rfl))
      (pss_cons (ps_for PassesOwn.never rfl (pi_enumK (K := K) rfl (by rfl) T.enumerate (pa_cons (pv 0) pa_nil)) (pg_tupK (K := K) (n := 2) rfl rfl (pgs_cons (pg_name (i := 4) nd rfl (Or.inl rfl)) (pgs_cons (pg_name (i := 5) nd rfl (Or.inl rfl)) pgs_nil))) (pss_one (ps_for PassesOwn.never rfl (pi_range1 (by rfl) T.range (pa_cons (pv 2) pa_nil)) (pg_name (i := 6) nd rfl (Or.inl rfl)) (pss_cons (ps_set (i := 7) nd rfl (Or.inl rfl) (pe_op op_rep (pe_lst (pa_cons (pe_mkQ1 MQ T.g_Ratio (hr.mono (by decide)) (by rfl) (pa_cons pe_int pa_nil)) pa_nil)) (pe_op op_mulP (pv 1) (pv 2))))
      (pss_cons (ps_for PassesOwn.never rfl (pi_range1 (by rfl) T.range (pa_cons (pv 1) pa_nil)) (pg_name (i := 8) nd rfl (Or.inl rfl)) (pss_one (ps_asg (pe_ix (ix_listK (K := K) rfl) (pv 5) (pv 8) (fun _ _ => rfl)) (pg_sub (pv 7) (pe_op op_add (pe_op op_mulP (pv 8) (pv 2)) (pv 6)) set_list))))
      (pss_one (ps_expr (pe_bm PySem.F.plainAttrs_list PySem.F.slot_list_append PySem.F.type_list_append mt_append (pv 3) (pa_cons (pe_op op_cat (pv 7) (pe_lst (pa_cons (pe_mkQ1 MQ T.g_Ratio (hr.mono (by decide)) (by rfl) (pa_cons (pe_callTy call_int1 (by rfl) T.int bt_int (pa_cons (pe_cmpR op_eq (pv 4) (pv 6) (nomark _)) pa_nil)) pa_nil)) pa_nil))) pa_nil)))))))))
      (pss_one (ps_ret (pv 3))))), fin2N (n := 7) rfl ?_⟩
  intro room size G H Q c k
  obtain ⟨c1, c2, c3, c4⟩ := c
  obtain ⟨n, rfl⟩ := Int.eq_ofNat_of_zero_le c2
  rw [Int.toNat_natCast] at c4
  have hsz : n * room.length ≤ 100 := Nat.mul_le_mul (show n ≤ 10 by omega) c1
  have smn : Sm (n : Int) := sm_nat (by omega)
  have smr : Sm (room.length : Int) := sm_nat (by omega)
  have tn : ((n : Int) * (room.length : Int)).toNat = n * room.length := by rw [← Int.natCast_mul, Int.toNat_natCast]
  have t0 : (0 : Int) ≤ (n : Int) * (room.length : Int) := by rw [← Int.natCast_mul]; exact Int.natCast_nonneg _
  have tl : (n : Int) * (room.length : Int) < 100000 := by rw [← Int.natCast_mul]; omega
  have full : (upto room.length).take room.length = upto room.length := List.take_of_length_le (by rw [upto_len]; exact Nat.le_refl _)
  have fulln : (upto n).take n = upto n := List.take_of_length_le (by rw [upto_len]; exact Nat.le_refl _)
  refine sg_seq (sg_parO up_true (by simp [nos, st]) (eg_len (eg_var 0 rfl)) (en_nil (rL rQ)) (nx_go ?_))
  refine sg_seq (sg_for up_true (ig_enum (eg_var 0 rfl)) (fun i => [.im rT room, .im rI (n : Int), .im rI (room.length : Int), .own (rL rQ) (((enumL room).take i).flatMap fun p => (upto room.length).map fun place => heldLine room.length n p place), .no, .no, .no, .no, .no])
    ⟨.inr rfl, .inr rfl, .inr rfl, .inr rfl, .inl rfl, .inl rfl, .inl rfl, .inl rfl, .inl rfl, trivial⟩ (fun i p P' hu hp => ⟨_, gl_pair, ?_⟩) ?_)
  · have e1 := map_flat_take (fun p : Int × List Rat => (upto room.length).map fun place => heldLine room.length n p place) hp
    have l1 : (((enumL room).take i).flatMap fun p => (upto room.length).map fun place => heldLine room.length n p place).length ≤ 100 := by
      rw [fm_len _ room.length _ (fun x _ => by simp [upto_len]), List.length_take, enumL_len]
      exact Nat.mul_le_mul (show min i room.length ≤ 10 by omega) c1
    have ms : p.2 ∈ room := (List.of_mem_zip (mem_of_at hp)).2
    refine sg_for hu (ig_range (n := (room.length : Int)) (eg_var 2 rfl) (by omega) (by omega)) (fun j => [.im rT room, .im rI (n : Int), .im rI (room.length : Int), .own (rL rQ) ((((enumL room).take i).flatMap fun p => (upto room.length).map fun place => heldLine room.length n p place) ++ ((upto room.length).take j).map (heldLine room.length n p)), .im rI p.1, .im (rL rQ) p.2, .no, .no, .no])
      ⟨.inr rfl, .inr rfl, .inr rfl, .inr (by rw [List.take_zero, List.map_nil, List.append_nil]), .inr rfl, .inr rfl, .inl rfl, .inl rfl, .inl rfl, trivial⟩ (fun j place P2 hu2 hj => ⟨_, gl_name, ?_⟩) ?_
    · obtain ⟨rfl, hj2⟩ := ints_at hj
      rw [Int.toNat_natCast] at hj2
      refine sg_seq (sg_own hu2 (by simp [st]) ((en_rep (en_lst (er_cons ((eg_mkQ1 eg_int).cast zeroQ.symm) er_nil) (show 1 < big by decide)).eg (eg_mulP (eg_var 1 rfl) (eg_var 2 rfl) smn smr) t0 tl).cast (xs' := List.replicate (n * room.length) 0) (by rw [tn])) (nx_go ?_))
      refine sg_seq (sg_for hu2 (ig_range (n := (n : Int)) (eg_var 1 rfl) (by omega) (by omega)) (fun m => [.im rT room, .im rI (n : Int), .im rI (room.length : Int), .own (rL rQ) ((((enumL room).take i).flatMap fun p => (upto room.length).map fun place => heldLine room.length n p place) ++ ((upto room.length).take j).map (heldLine room.length n p)), .im rI p.1, .im (rL rQ) p.2, .im rI (j : Int), .own rQ (((upto n).take m).foldl (fun row a => row.set (a * (room.length : Int) + (j : Int)).toNat (atQ p.2 a)) (List.replicate (n * room.length) 0)), .no])
        ⟨.inr rfl, .inr rfl, .inr rfl, .inr rfl, .inr rfl, .inr rfl, .inr rfl, .inr rfl, .inl rfl, trivial⟩ (fun m at_ P3 hu3 hm => ⟨_, gl_name, ?_⟩) ?_)
      · have em : ((upto n).take (m + 1)).foldl (fun row a => row.set (a * (room.length : Int) + (j : Int)).toNat (atQ p.2 a)) (List.replicate (n * room.length) 0) = (((upto n).take m).foldl (fun row a => row.set (a * (room.length : Int) + (j : Int)).toNat (atQ p.2 a)) (List.replicate (n * room.length) 0)).set (at_ * (room.length : Int) + (j : Int)).toNat (atQ p.2 at_) := by
          rw [take_succ' (l := upto n) hm, List.foldl_append]
          rfl
        have lr := sets_len (fun a : Int => a * (room.length : Int) + (j : Int)) (fun a => atQ p.2 a) ((upto n).take m) (List.replicate (n * room.length) 0)
        rw [List.length_replicate] at lr
        obtain ⟨rfl, hm2⟩ := ints_at hm
        rw [Int.toNat_natCast] at hm2
        have a1 := ix_in2 hm2 hj2
        exact sg_set (n := 7) hu3 rfl (eg_ix (eg_var 5 rfl) (eg_var 8 rfl) (atQ_at (by omega) (by rw [c4 p.2 ms]; omega))) (eg_add (eg_mulP (eg_var 8 rfl) (eg_var 2 rfl) (sm_nat (by omega)) smr) (eg_var 6 rfl)) (ixN_pos a1.1 (by rw [lr]; exact a1.2)) (nx_of rfl ⟨.inr rfl, .inr rfl, .inr rfl, .inr rfl, .inr rfl, .inr rfl, .inr rfl, .inr (by rw [em]), .inl rfl, trivial⟩)
      · rw [ints_len, Int.toNat_natCast, fulln]
        have lr := sets_len (fun a : Int => a * (room.length : Int) + (j : Int)) (fun a => atQ p.2 a) (upto n) (List.replicate (n * room.length) 0)
        rw [List.length_replicate] at lr
        refine sg_freeze (n := 7) hu2 rfl (sg_append (n := 3) hu2 rfl (en_cat (eg_var 7 rfl) (en_lst (er_cons ((eg_mkQ1 (eg_intB (eg_eq (eg_var 4 rfl) (eg_var 6 rfl)))).cast (x' := if p.1 = (j : Int) then (1 : Rat) else 0) ?_) er_nil) (show 1 < big by decide)).eg ?_).eg ?_ (nx_of rfl ⟨.inr rfl, .inr rfl, .inr rfl, .inr ?_, .inr rfl, .inr rfl, .inl rfl, .inl rfl, .inl rfl, trivial⟩))
        · rw [rat_int]
          by_cases hb : p.1 = (j : Int)
          · simp [hb]
          · simp [hb]
        · rw [lr]
          simp only [List.length_cons, List.length_nil]
          unfold big
          omega
        · rw [List.length_append, List.length_map, List.length_take, upto_len]
          unfold big
          omega
        · rw [take_succ' (l := upto room.length) hj, List.map_append, ← List.append_assoc]
          rfl
    · rw [ints_len, Int.toNat_natCast, full]
      exact nx_of rfl ⟨.inr rfl, .inr rfl, .inr rfl, .inr (by rw [e1]), .inl rfl, .inl rfl, .inl rfl, .inl rfl, .inl rfl, trivial⟩
  · rw [List.take_length]
    have e : m_held_rows room (n : Int) = (enumL room).flatMap fun p => (upto room.length).map fun place => heldLine room.length n p place := by
      unfold m_held_rows
      rw [Int.toNat_natCast]
    rw [← e]
    exact sg_retO (n := 3) rfl k rfl
abbrev s_even_rows : Stmt := (topS 103)
abbrev N_even_rows : List Str := ["letter", "small", "size", "many", "found", "line", "place", "row", "at"]
theorem sc_even_rows : FnScope N_even_rows ["letter", "small"] (defScope s_even_rows) := ⟨rfl, rfl, rfl, by decide +kernel, rfl, by decide +kernel, by decide +kernel⟩
abbrev T_even_rows (P : Program) (w : World) (K : PySem.W.Frag) (mg : Str → Option Value) (base : Heap) : Prop := Ok P w K mg base "even_rows" 45 ["letter", "small"] (sp2 (rL (rL rQ)) (rL (rL rQ)) A_even_rows (rL (rL rQ)) m_even_rows)
theorem ok_even_rows (T : Tx P K mg base) (d : Df K mg "even_rows" s_even_rows) (MQ : MkQ P w K mg base 42) (M_sub : T_sub P w K mg base) : T_even_rows P w K mg base := by
  refine mkOk d sc_even_rows (fun _ _ _ _ _ _ us hl => match us, hl with | [_, _], _ => rfl) len2 fun f cdv A outer s H E hr => ?_
  have nd := sc_even_rows.nd
  refine ⟨_, (pss_cons (ps_par3 (i := 2) (j := 3) (l := 4) rfl nd rfl rfl rfl (by decide) (by decide) (by decide) rfl rfl rfl (pa_cons (pe_callB (call_lenK (K := K) rfl) (by rfl) T.len bt_len (pa_cons (pv 0) pa_nil)) (pa_cons (pe_callB (call_lenK (K := K) rfl) (by rfl) T.len bt_len (pa_cons (pv 1) pa_nil)) (pa_cons (pe_lst pa_nil) pa_nil))) (by rfl))
      (pss_cons (ps_for PassesOwn.never rfl (pi_range1 (by rfl) T.range (pa_cons (pv 2) pa_nil)) (pg_name (i := 5) nd rfl (Or.inl rfl)) (pss_one (ps_for PassesOwn.never rfl (pi_range1 (by rfl) T.range (pa_cons (pv 3) pa_nil)) (pg_name (i := 6) nd rfl (Or.inl rfl)) (pss_cons (ps_set (i := 7) nd rfl (Or.inl rfl) (pe_op op_rep (pe_lst (pa_cons (pe_mkQ1 MQ T.g_Ratio (hr.mono (by decide)) (by rfl) (pa_cons pe_int pa_nil)) pa_nil)) (pe_op op_mulP (pv 2) (pv 3))))
      (pss_cons (ps_for PassesOwn.never rfl (pi_range1 (by rfl) T.range (pa_cons (pv 2) pa_nil)) (pg_name (i := 8) nd rfl (Or.inl rfl)) (pss_one (ps_asg (pe_ix (ix_listK (K := K) rfl) (pe_ix (ix_listK (K := K) rfl) (pv 0) (pv 5) (fun _ _ => rfl)) (pv 8) (fun _ _ => rfl)) (pg_sub (pv 7) (pe_op op_add (pe_op op_mulP (pv 8) (pv 3)) (pv 6)) set_list))))
      (pss_cons (ps_for PassesOwn.never rfl (pi_range1 (by rfl) T.range (pa_cons (pv 3) pa_nil)) (pg_name (i := 8) nd rfl (Or.inl rfl)) (pss_one (ps_asg (pe_op (op_ownO M_sub T.selfQ (hr.mono (by decide))) (pe_ix (ix_listK (K := K) rfl) (pv 7) (pe_op op_add (pe_op op_mulP (pv 5) (pv 3)) (pv 8)) (fun _ _ => rfl)) (pe_ix (ix_listK (K := K) rfl) (pe_ix (ix_listK (K := K) rfl) (pv 1) (pv 8) (fun _ _ => rfl)) (pv 6) (fun _ _ => rfl))) (pg_sub (pv 7) (pe_op op_add (pe_op op_mulP (pv 5) (pv 3)) (pv 8)) set_list))))
      (pss_one (ps_expr (pe_bm PySem.F.plainAttrs_list PySem.F.slot_list_append PySem.F.type_list_append mt_append (pv 4) (pa_cons (pe_op op_cat (pv 7) (pe_lst (pa_cons (pe_mkQ1 MQ T.g_Ratio (hr.mono (by decide)) (by rfl) (pa_cons pe_int pa_nil)) pa_nil))) pa_nil))))))))))
      (pss_one (ps_ret (pv 4))))), fin2 (n := 7) rfl ?_⟩
  intro letter small G H Q c k
  obtain ⟨c1, c2, c3, c4, c5⟩ := c
  have hsz : letter.length * small.length ≤ 100 := Nat.mul_le_mul c1 c2
  have smn : Sm (letter.length : Int) := sm_nat (by omega)
  have smr : Sm (small.length : Int) := sm_nat (by omega)
  have tn : ((letter.length : Int) * (small.length : Int)).toNat = letter.length * small.length := by rw [← Int.natCast_mul, Int.toNat_natCast]
  have t0 : (0 : Int) ≤ (letter.length : Int) * (small.length : Int) := by rw [← Int.natCast_mul]; exact Int.natCast_nonneg _
  have tl : (letter.length : Int) * (small.length : Int) < 100000 := by rw [← Int.natCast_mul]; omega
  have full : (upto small.length).take small.length = upto small.length := List.take_of_length_le (by rw [upto_len]; exact Nat.le_refl _)
  have fulln : (upto letter.length).take letter.length = upto letter.length := List.take_of_length_le (by rw [upto_len]; exact Nat.le_refl _)
  have ll : ∀ line, (evenLines letter small line).length = small.length := fun line => by simp [evenLines, upto_len]
  refine sg_seq (sg_par3 up_true (by simp [nos, st]) (eg_len (eg_var 0 rfl)) (eg_len (eg_var 1 rfl)) (en_nil (rL rQ)) (nx_go ?_))
  refine sg_seq (sg_for up_true (ig_range (n := (letter.length : Int)) (eg_var 2 rfl) (by omega) (by omega)) (fun i => [.im rT letter, .im rT small, .im rI (letter.length : Int), .im rI (small.length : Int), .own (rL rQ) (((upto letter.length).take i).flatMap (evenLines letter small)), .no, .no, .no, .no])
    ⟨.inr rfl, .inr rfl, .inr rfl, .inr rfl, .inr rfl, .inl rfl, .inl rfl, .inl rfl, .inl rfl, trivial⟩ (fun i line P' hu hi => ⟨_, gl_name, ?_⟩) ?_)
  · have e1 := map_flat_take (evenLines letter small) (xs := upto letter.length) hi
    have mline : line ∈ upto letter.length := List.mem_of_getElem? (l := upto letter.length) hi
    obtain ⟨rfl, hi2⟩ := ints_at hi
    rw [Int.toNat_natCast] at hi2
    have l1 : (((upto letter.length).take i).flatMap (evenLines letter small)).length ≤ 100 := by
      rw [fm_len _ small.length _ (fun x _ => ll x), List.length_take, upto_len]
      exact Nat.mul_le_mul (show min i letter.length ≤ 10 by omega) c2
    refine sg_for hu (ig_range (n := (small.length : Int)) (eg_var 3 rfl) (by omega) (by omega)) (fun j => [.im rT letter, .im rT small, .im rI (letter.length : Int), .im rI (small.length : Int), .own (rL rQ) (((upto letter.length).take i).flatMap (evenLines letter small) ++ ((upto small.length).take j).map fun place => evenRow letter small (i : Int) place ++ [0]), .im rI (i : Int), .no, .no, .no])
      ⟨.inr rfl, .inr rfl, .inr rfl, .inr rfl, .inr (by rw [List.take_zero, List.map_nil, List.append_nil]), .inr rfl, .inl rfl, .inl rfl, .inl rfl, trivial⟩ (fun j place P2 hu2 hj => ⟨_, gl_name, ?_⟩) ?_
    · have mplace : place ∈ upto small.length := List.mem_of_getElem? (l := upto small.length) hj
      obtain ⟨rfl, hj2⟩ := ints_at hj
      rw [Int.toNat_natCast] at hj2
      generalize hpre : ((upto letter.length).take i).flatMap (evenLines letter small) ++ (((upto small.length).take j).map fun place => evenRow letter small (i : Int) place ++ [0]) = pre
      have lpre : pre.length ≤ 110 := by
        rw [← hpre, List.length_append, List.length_map, List.length_take, upto_len]
        omega
      refine sg_seq (sg_own hu2 (by simp [st]) ((en_rep (en_lst (er_cons ((eg_mkQ1 eg_int).cast zeroQ.symm) er_nil) (show 1 < big by decide)).eg (eg_mulP (eg_var 2 rfl) (eg_var 3 rfl) smn smr) t0 tl).cast (xs' := List.replicate (letter.length * small.length) 0) (by rw [tn])) (nx_go ?_))
      have l2 := sets_len (fun a : Int => a * (small.length : Int) + (j : Int)) (fun a => atQ (atL letter (i : Int)) a)
      refine sg_seq (sg_for hu2 (ig_range (n := (letter.length : Int)) (eg_var 2 rfl) (by omega) (by omega)) (fun m => [.im rT letter, .im rT small, .im rI (letter.length : Int), .im rI (small.length : Int), .own (rL rQ) pre, .im rI (i : Int), .im rI (j : Int), .own rQ (((upto letter.length).take m).foldl (fun row a => row.set (a * (small.length : Int) + (j : Int)).toNat (atQ (atL letter (i : Int)) a)) (List.replicate (letter.length * small.length) 0)), .no])
        ⟨.inr rfl, .inr rfl, .inr rfl, .inr rfl, .inr rfl, .inr rfl, .inr rfl, .inr rfl, .inl rfl, trivial⟩ (fun m at_ P3 hu3 hm => ⟨_, gl_name, ?_⟩) ?_)
      · have em : ((upto letter.length).take (m + 1)).foldl (fun row a => row.set (a * (small.length : Int) + (j : Int)).toNat (atQ (atL letter (i : Int)) a)) (List.replicate (letter.length * small.length) 0) = (((upto letter.length).take m).foldl (fun row a => row.set (a * (small.length : Int) + (j : Int)).toNat (atQ (atL letter (i : Int)) a)) (List.replicate (letter.length * small.length) 0)).set (at_ * (small.length : Int) + (j : Int)).toNat (atQ (atL letter (i : Int)) at_) := by
          rw [take_succ' (l := upto letter.length) hm, List.foldl_append]
          rfl
        have lr := l2 ((upto letter.length).take m) (List.replicate (letter.length * small.length) 0)
        rw [List.length_replicate] at lr
        obtain ⟨rfl, hm2⟩ := ints_at hm
        rw [Int.toNat_natCast] at hm2
        have a1 := ix_in2 hm2 hj2
        have ml : atL letter (i : Int) ∈ letter := by
          unfold atL
          rw [List.getElem?_eq_getElem (by rw [Int.toNat_natCast]; exact hi2)]
          exact List.getElem_mem _
        exact sg_set (n := 7) hu3 rfl (eg_ix (eg_ix (eg_var 0 rfl) (eg_var 5 rfl) (atL_at (by omega) (by rw [Int.toNat_natCast]; exact hi2))) (eg_var 8 rfl) (atQ_at (by omega) (by rw [c3.2 _ ml]; omega))) (eg_add (eg_mulP (eg_var 8 rfl) (eg_var 3 rfl) (sm_nat (by omega)) smr) (eg_var 6 rfl)) (ixN_pos a1.1 (by rw [lr]; exact a1.2)) (nx_of rfl ⟨.inr rfl, .inr rfl, .inr rfl, .inr rfl, .inr rfl, .inr rfl, .inr rfl, .inr (by rw [em]), .inl rfl, trivial⟩)
      · rw [ints_len, Int.toNat_natCast, fulln]
        have lone := l2 (upto letter.length) (List.replicate (letter.length * small.length) 0)
        rw [List.length_replicate] at lone
        refine sg_seq (sg_for hu2 (ig_range (n := (small.length : Int)) (eg_var 3 rfl) (by omega) (by omega)) (fun m => [.im rT letter, .im rT small, .im rI (letter.length : Int), .im rI (small.length : Int), .own (rL rQ) pre, .im rI (i : Int), .im rI (j : Int), .own rQ (((upto small.length).take m).foldl (evenStep small (i : Int) (j : Int)) (evenOne letter small.length (i : Int) (j : Int))), .no])
          ⟨.inr rfl, .inr rfl, .inr rfl, .inr rfl, .inr rfl, .inr rfl, .inr rfl, .inr rfl, .inl rfl, trivial⟩ (fun m at_ P3 hu3 hm => ⟨_, gl_name, ?_⟩) ?_)
        · have em : ((upto small.length).take (m + 1)).foldl (evenStep small (i : Int) (j : Int)) (evenOne letter small.length (i : Int) (j : Int)) = evenStep small (i : Int) (j : Int) (((upto small.length).take m).foldl (evenStep small (i : Int) (j : Int)) (evenOne letter small.length (i : Int) (j : Int))) at_ := by
            rw [take_succ' (l := upto small.length) hm, List.foldl_append]
            rfl
          have lr := evens_len small (i : Int) (j : Int) ((upto small.length).take m) (evenOne letter small.length (i : Int) (j : Int))
          have lo2 : (evenOne letter small.length (i : Int) (j : Int)).length = letter.length * small.length := lone
          rw [lo2] at lr
          have d := c5 (i : Int) (j : Int) m at_ mline mplace (by
            have e : ((small.length : Int)).toNat = small.length := Int.toNat_natCast _
            rw [e] at hm
            exact hm)
          obtain ⟨rfl, hm2⟩ := ints_at hm
          rw [Int.toNat_natCast] at hm2
          have a1 := ix_in2 hi2 hm2
          have ml : atL small (m : Int) ∈ small := by
            unfold atL
            rw [List.getElem?_eq_getElem (by rw [Int.toNat_natCast]; exact hm2)]
            exact List.getElem_mem _
          refine sg_set (n := 7) hu3 rfl (eg_own (eg_ixO (xs := ((upto small.length).take m).foldl (evenStep small (i : Int) (j : Int)) (evenOne letter small.length (i : Int) (j : Int))) 7 rfl (eg_add (eg_mulP (eg_var 5 rfl) (eg_var 3 rfl) (sm_nat (by omega)) smr) (eg_var 8 rfl)) (atQ_at a1.1 (by rw [lr]; exact a1.2))) (eg_ix (eg_ix (eg_var 1 rfl) (eg_var 8 rfl) (atL_at (by omega) (by rw [Int.toNat_natCast]; exact hm2))) (eg_var 6 rfl) (atQ_at (by omega) (by rw [c4.2 _ ml]; omega))) d) (eg_add (eg_mulP (eg_var 5 rfl) (eg_var 3 rfl) (sm_nat (by omega)) smr) (eg_var 8 rfl)) (ixN_pos a1.1 (by rw [lr]; exact a1.2)) (nx_of rfl ⟨.inr rfl, .inr rfl, .inr rfl, .inr rfl, .inr rfl, .inr rfl, .inr rfl, .inr (by rw [em] <;> rfl), .inl rfl, trivial⟩)
        · rw [ints_len, Int.toNat_natCast, full]
          have lr := evens_len small (i : Int) (j : Int) (upto small.length) (evenOne letter small.length (i : Int) (j : Int))
          have lo2 : (evenOne letter small.length (i : Int) (j : Int)).length = letter.length * small.length := lone
          rw [lo2] at lr
          refine sg_freeze (n := 7) hu2 rfl (sg_append (n := 4) hu2 rfl (en_cat (eg_var 7 rfl) (en_lst (er_cons ((eg_mkQ1 eg_int).cast zeroQ.symm) er_nil) (show 1 < big by decide)).eg ?_).eg ?_ (nx_of rfl ⟨.inr rfl, .inr rfl, .inr rfl, .inr rfl, .inr ?_, .inr rfl, .inl rfl, .inl rfl, .inl rfl, trivial⟩))
          · rw [lr]
            simp only [List.length_cons, List.length_nil]
            unfold big
            omega
          · unfold big
            omega
          · rw [← hpre, take_succ' (l := upto small.length) hj, List.map_append, ← List.append_assoc]
            rfl
    · rw [ints_len, Int.toNat_natCast, full]
      exact nx_of rfl ⟨.inr rfl, .inr rfl, .inr rfl, .inr rfl, .inr (by rw [e1] <;> rfl), .inl rfl, .inl rfl, .inl rfl, .inl rfl, trivial⟩
  · rw [ints_len, Int.toNat_natCast, fulln]
    exact sg_freeze (n := 4) up_true rfl (sg_out (eg_var 4 rfl) k rfl)
end
end TW
set_option Elab.async false
set_option linter.all false
set_option maxRecDepth 100000
set_option maxHeartbeats 4000000
namespace TW
open PySem PySem.Spec PyProof.Rows L2
abbrev A_about_of (t : Tab) : Prop := ∀ r ∈ t, r.length = t.length
section
variable {P : Program} {w : World} {K : PySem.W.Frag} {mg : Str → Option Value} {base : Heap}
abbrev s_about_of : Stmt := (topS 52)
abbrev N_about_of : List Str := ["table", "place", "row"]
theorem sc_about_of : FnScope N_about_of ["table"] (defScope s_about_of) := ⟨rfl, rfl, rfl, by decide +kernel, rfl, by decide +kernel, by decide +kernel⟩
abbrev T_about_of (P : Program) (w : World) (K : PySem.W.Frag) (mg : Str → Option Value) (base : Heap) : Prop := Ok P w K mg base "about_of" 41 ["table"] (sp1 (rL (rL rQ)) A_about_of (rL (rL rQ)) m_about_of)
theorem ok_about_of (T : Tx P K mg base) (d : Df K mg "about_of" s_about_of) : T_about_of P w K mg base := by
  refine mkOk d sc_about_of (fun _ _ _ _ _ _ us hl => match us, hl with | [_], _ => rfl) len1 fun f cdv A outer s H E hr => ?_
  have nd := sc_about_of.nd
  refine ⟨_, (pss_one (ps_ret (pe_lc (own := [("place", 1)]) (g := gName 1) (tt := tYes) rfl nd (pi_range1 (by rfl) T.range (pa_cons (pe_callB (call_lenK (K := K) rfl) (by rfl) T.len bt_len (pa_cons (pv 0) pa_nil)) pa_nil)) (blkOk_by (by kernel_rfl)) (fun _ _ _ _ _ => (pg_name (i := 1) nd rfl (by first | exact Or.inl rfl | exact Or.inr rfl))) (fun _ _ _ _ _ => pts_nil) (fun _ _ _ _ _ => (pe_lc (own := [("row", 2)]) (g := gName 2) (tt := tYes) rfl nd (pi_listK (K := K) rfl (pv 0)) (blkOk_by (by kernel_rfl)) (fun _ _ _ _ _ => (pg_name (i := 2) nd rfl (by first | exact Or.inl rfl | exact Or.inr rfl))) (fun _ _ _ _ _ => pts_nil) (fun _ _ _ _ _ => (pe_ix (ix_listK (K := K) rfl) (pv 2) (pv 1) (fun _ _ => rfl)))))))), fin1 (n := 2) rfl ?_⟩
  intro t G H Q c k
  refine sg_len (n := 0) rfl fun z => ?_
  refine sg_out (en_lc (f := fun p : Int => t.map fun r => atQ r p) (ig_range (n := (t.length : Int)) (eg_len (eg_var 0 rfl)) (by omega) (by unfold big at z; omega)) (by decide) (fun n p hp => ⟨_, gt_name (by decide), (en_lc (f := fun r : List Rat => atQ r p) (ig_list (eg_var 0 rfl)) (by decide) (fun m r hr => ⟨_, gt_name (by decide), eg_ix (eg_var 2 rfl) (eg_var 1 rfl) ?_⟩)).eg⟩)).eg k rfl
  obtain ⟨rfl, hn⟩ := ints_at hp
  rw [Int.toNat_natCast] at hn
  exact atQ_at (by omega) (by rw [c r (mem_of_at hr), Int.toNat_natCast]; exact hn)
abbrev s_onto_of : Stmt := (topS 104)
abbrev N_onto_of : List Str := ["house", "room", "size", "many", "rows", "letter", "small", "told", "line", "row"]
theorem sc_onto_of : FnScope N_onto_of ["house", "room"] (defScope s_onto_of) := ⟨rfl, rfl, rfl, by decide +kernel, rfl, by decide +kernel, by decide +kernel⟩
abbrev T_onto_of (P : Program) (w : World) (K : PySem.W.Frag) (mg : Str → Option Value) (base : Heap) : Prop := Ok P w K mg base "onto_of" 51 ["house", "room"] (sp2 rH (rL (rL rQ)) A_onto_of (rO (rL (rL rQ))) m_onto_of)
theorem ok_onto_of (T : Tx P K mg base) (d : Df K mg "onto_of" s_onto_of) (MQ : MkQ P w K mg base 42) (O_held_rows : T_held_rows P w K mg base) (O_cut_of : T_cut_of P w K mg base) (O_even_rows : T_even_rows P w K mg base) (O_solution_of : T_solution_of P w K mg base) (O_product_of : T_product_of P w K mg base) : T_onto_of P w K mg base := by
  refine mkOk d sc_onto_of (fun _ _ _ _ _ _ us hl => match us, hl with | [_, _], _ => rfl) len2 fun f cdv A outer s H E hr => ?_
  have nd := sc_onto_of.nd
  refine ⟨_, (pss_cons (ps_asg (pe_tup (pa_cons (pe_fldK (K := K) rfl (pv 0) rfl) (pa_cons (pe_callB (call_lenK (K := K) rfl) (by rfl) T.len bt_len (pa_cons (pv 1) pa_nil)) pa_nil))) (pg_tupK (K := K) (n := 2) rfl rfl (pgs_cons (pg_name (i := 2) nd rfl (Or.inr rfl)) (pgs_cons (pg_name (i := 3) nd rfl (Or.inr rfl)) pgs_nil))))
      (pss_cons (ps_if (pt_cmpR op_eq (pv 3) pe_int (nomark _)) (pss_one (ps_ret (pe_lc (own := [("line", 8)]) (g := gName 8) (tt := tYes) rfl nd (pi_range1 (by rfl) T.range (pa_cons (pv 2) pa_nil)) (blkOk_by (by kernel_rfl)) (fun _ _ _ _ _ => (pg_name (i := 8) nd rfl (by first | exact Or.inl rfl | exact Or.inr rfl))) (fun _ _ _ _ _ => pts_nil) (fun _ _ _ _ _ => (pe_op op_rep (pe_lst (pa_cons (pe_mkQ1 MQ T.g_Ratio (hr.mono (by decide)) (by rfl) (pa_cons pe_int pa_nil)) pa_nil)) (pv 2)))))) pss_nil)
      (pss_cons (ps_set (i := 4) nd rfl (Or.inl rfl) (pe_callO O_held_rows (hr.mono (by decide)) (by rfl) (pa_cons (pv 1) (pa_cons (pv 2) pa_nil))))
      (pss_cons (ps_for PassesOwn.never rfl (pi_zipK (K := K) rfl (by rfl) T.zip (pa_cons (pe_fldK (K := K) rfl (pv 0) rfl) (pa_cons (pe_fldK (K := K) rfl (pe_callO O_cut_of (hr.mono (by decide)) (by rfl) (pa_cons (pv 0) (pa_cons (pv 1) pa_nil))) rfl) pa_nil))) (pg_tupK (K := K) (n := 2) rfl rfl (pgs_cons (pg_name (i := 5) nd rfl (Or.inl rfl)) (pgs_cons (pg_name (i := 6) nd rfl (Or.inl rfl)) pgs_nil))) (pss_one (ps_expr (pe_bm PySem.F.plainAttrs_list PySem.F.slot_list_extend PySem.F.type_list_extend mt_extend (pv 4) (pa_cons (pe_callO O_even_rows (hr.mono (by decide)) (by rfl) (pa_cons (pv 5) (pa_cons (pv 6) pa_nil))) pa_nil)))))
      (pss_cons (ps_set (i := 7) nd rfl (Or.inr rfl) (pe_callO O_solution_of (hr.mono (by decide)) (by rfl) (pa_cons (pe_lc (own := [("row", 9)]) (g := gName 9) (tt := tYes) rfl nd (pi_listK (K := K) rfl (pv 4)) (blkOk_by (by kernel_rfl)) (fun _ _ _ _ _ => (pg_name (i := 9) nd rfl (by first | exact Or.inl rfl | exact Or.inr rfl))) (fun _ _ _ _ _ => pts_nil) (fun _ _ _ _ _ => (pe_slice (sl_listK (K := K) rfl) (pv 9) po_none (po_some (pe_un un_neg pe_int))))) (pa_cons (pe_lc (own := [("row", 9)]) (g := gName 9) (tt := tYes) rfl nd (pi_listK (K := K) rfl (pv 4)) (blkOk_by (by kernel_rfl)) (fun _ _ _ _ _ => (pg_name (i := 9) nd rfl (by first | exact Or.inl rfl | exact Or.inr rfl))) (fun _ _ _ _ _ => pts_nil) (fun _ _ _ _ _ => (pe_ix (ix_listK (K := K) rfl) (pv 9) (pe_un un_neg pe_int) (fun _ _ => rfl)))) pa_nil))))
      (pss_cons (ps_if (pt_cmp (pc_isN (pv 7))) (pss_one (ps_ret pe_non)) pss_nil)
      (pss_one (ps_ret (pe_callO O_product_of (hr.mono (by decide)) (by rfl) (pa_cons (pe_lc (own := [("line", 8)]) (g := gName 8) (tt := tYes) rfl nd (pi_range1 (by rfl) T.range (pa_cons (pv 2) pa_nil)) (blkOk_by (by kernel_rfl)) (fun _ _ _ _ _ => (pg_name (i := 8) nd rfl (by first | exact Or.inl rfl | exact Or.inr rfl))) (fun _ _ _ _ _ => pts_nil) (fun _ _ _ _ _ => (pe_slice (sl_listK (K := K) rfl) (pv 7) (po_some (pe_op op_mulP (pv 8) (pv 3))) (po_some (pe_op op_mulP (pe_op op_add (pv 8) pe_int) (pv 3)))))) (pa_cons (pv 1) pa_nil))))))))))), fin2 (n := 8) rfl ?_⟩
  intro h room G H Q c k
  obtain ⟨c1, c2, c3, c4, c5, c6, c7, c8⟩ := c
  have hr10 := c3.1
  have hn10 := c3.2.2.1
  have lens : ∀ p ∈ h.ls.zip (m_cut_of h room).ls, (m_even_rows p.1 p.2).length ≤ 100 := fun p hp => by
    have d := c5 p hp
    unfold m_even_rows
    rw [fm_len _ p.2.length _ (fun x _ => by simp [evenLines, upto_len]), upto_len]
    exact Nat.mul_le_mul d.1 d.2.1
  have l0 : (m_held_rows room (h.n : Int)).length ≤ 100 := by
    unfold m_held_rows
    rw [fm_len _ room.length _ (fun x _ => by simp [upto_len]), enumL_len]
    exact Nat.mul_le_mul hr10 hr10
  have pre : ∀ (m : Nat), m ≤ (h.ls.zip (m_cut_of h room).ls).length → (((h.ls.zip (m_cut_of h room).ls).take m).flatMap fun p => m_even_rows p.1 p.2).length ≤ m * 100 := by
    intro m
    induction m with
    | zero => intro _; simp
    | succ m ih =>
      intro hm
      have hm' : m < (h.ls.zip (m_cut_of h room).ls).length := by omega
      rw [map_flat_take (fun p : Tab × Tab => m_even_rows p.1 p.2) (List.getElem?_eq_getElem hm'), List.length_append]
      have := ih (by omega)
      have := lens _ (List.getElem_mem hm')
      omega
  have zl : (h.ls.zip (m_cut_of h room).ls).length < 10 := by rw [List.length_zip]; omega
  refine sg_seq (sg_tup up_true (eg_width T.clH T.nwH (eg_var 0 rfl)) (eg_len (eg_var 1 rfl)) (nx_go ?_))
  refine sg_seq (sg_ifF (b := decide ((room.length : Int) = 0)) up_true (tg_val (eg_eq (eg_var 3 rfl) eg_int)) (decide_eq_false (by omega)) (sg_next (nx_go ?_)))
  refine sg_seq (sg_own up_true (by simp [nos, st]) (en_call2N (eg_var 1 rfl) (eg_var 2 rfl) c3) (nx_go ?_))
  refine sg_seq (sg_for up_true (ig_zip (eg_letters T.clH T.nlH (eg_var 0 rfl)) (eg_letters T.clH T.nlH (eg_call2 (eg_var 0 rfl) (eg_var 1 rfl) c4))) (fun n => [.im rH h, .im rT room, .im rI (h.n : Int), .im rI (room.length : Int), .own (rL rQ) (m_held_rows room (h.n : Int) ++ ((h.ls.zip (m_cut_of h room).ls).take n).flatMap fun p => m_even_rows p.1 p.2), .no, .no, .no, .no, .no])
    ⟨.inr rfl, .inr rfl, .inr rfl, .inr rfl, .inr (by rw [List.take_zero, List.flatMap_nil, List.append_nil]), .inl rfl, .inl rfl, .inl rfl, .inl rfl, .inl rfl, trivial⟩ (fun n p P' hu hp => ⟨_, gl_pair, ?_⟩) ?_)
  · have e := map_flat_take (fun p : Tab × Tab => m_even_rows p.1 p.2) hp
    have hn := (List.getElem?_eq_some_iff.mp hp).1
    have := pre n (by omega)
    have := lens p (mem_of_at hp)
    exact sg_extend (n := 4) hu rfl (eg_call2 (eg_var 5 rfl) (eg_var 6 rfl) (c5 p (mem_of_at hp))) (by rw [List.length_append]; unfold big; omega) (nx_of rfl ⟨.inr rfl, .inr rfl, .inr rfl, .inr rfl, .inr (by rw [e, ← List.append_assoc] <;> rfl), .inl rfl, .inl rfl, .inl rfl, .inl rfl, .inl rfl, trivial⟩)
  · rw [List.take_length]
    show Nx _ _ _ [_, _, _, _, .own (rL rQ) (ontoRows h room), _, _, _, _, _] _
    refine sg_freeze (n := 4) up_true rfl (sg_seq (sg_asg up_true (eg_call2 (en_lc (f := fun r : List Rat => r.dropLast) (ig_list (eg_var 4 rfl)) (by decide) (fun n r hr => ⟨_, gt_name (by decide), ((en_slice (eg_var 9 rfl) po_no (po_so (eg_neg eg_int))).cast (cut_last r (c6 r (mem_of_at hr)))).eg⟩)).eg (en_lc (f := lastQ) (ig_list (eg_var 4 rfl)) (by decide) (fun n r hr => ⟨_, gt_name (by decide), eg_ix (eg_var 9 rfl) (eg_neg eg_int) (at_last (c6 r (mem_of_at hr)))⟩)).eg c7) (nx_go ?_)))
    rw [c8]
    refine sg_seq (sg_ifT up_true (tg_B (eg_isN nn_L (eg_var 7 rfl))) rfl ?_)
    exact sg_out eg_non k rfl
abbrev s_partner_of : Stmt := (topS 105)
abbrev N_partner_of : List Str := ["house", "room", "table"]
theorem sc_partner_of : FnScope N_partner_of ["house", "room"] (defScope s_partner_of) := ⟨rfl, rfl, rfl, by decide +kernel, rfl, by decide +kernel, by decide +kernel⟩
abbrev T_partner_of (P : Program) (w : World) (K : PySem.W.Frag) (mg : Str → Option Value) (base : Heap) : Prop := Ok P w K mg base "partner_of" 52 ["house", "room"] (sp2 rH (rL (rL rQ)) A_partner_of (rO (rL (rL rQ))) m_partner_of)
theorem ok_partner_of (T : Tx P K mg base) (d : Df K mg "partner_of" s_partner_of) (O_onto_of : T_onto_of P w K mg base) (O_kernel_of : T_kernel_of P w K mg base) (O_about_of : T_about_of P w K mg base) : T_partner_of P w K mg base := by
  refine mkOk d sc_partner_of (fun _ _ _ _ _ _ us hl => match us, hl with | [_, _], _ => rfl) len2 fun f cdv A outer s H E hr => ?_
  have nd := sc_partner_of.nd
  refine ⟨_, (pss_cons (ps_set (i := 2) nd rfl (Or.inl rfl) (pe_callO O_onto_of (hr.mono (by decide)) (by rfl) (pa_cons (pv 0) (pa_cons (pv 1) pa_nil))))
      (pss_one (ps_ret (pe_ifExp (pt_cmp (pc_isN (pv 2))) pe_non (pe_callO O_kernel_of (hr.mono (by decide)) (by rfl) (pa_cons (pe_callO O_about_of (hr.mono (by decide)) (by rfl) (pa_cons (pv 2) pa_nil)) (pa_cons (pe_fldK (K := K) rfl (pv 0) rfl) pa_nil))))))), fin2 (n := 1) rfl ?_⟩
  intro h room G H Q c k
  refine sg_seq (sg_asg up_true (eg_call2 (eg_var 0 rfl) (eg_var 1 rfl) c) (nx_go ?_))
  exact sg_out (eg_if (b := (m_onto_of h room).isNone) (x1 := (none : Option Tab)) (x2 := none) (tg_B (eg_isN nn_L (eg_var 2 rfl))) (fun _ => eg_non) (fun e => absurd e (by simp [m_onto_of]))) (k.cast (by unfold m_partner_of; split <;> rfl)) rfl
abbrev s_partner : Stmt := (topS 106)
abbrev N_partner : List Str := ["house", "room", "here"]
theorem sc_partner : FnScope N_partner ["house", "room"] (defScope s_partner) := ⟨rfl, rfl, rfl, by decide +kernel, rfl, by decide +kernel, by decide +kernel⟩
abbrev T_partner (P : Program) (w : World) (K : PySem.W.Frag) (mg : Str → Option Value) (base : Heap) : Prop := Ok P w K mg base "partner" 53 ["house", "room"] (sp2 rH (rL (rL rNV)) A_partner (rO (rL (rL rQ))) m_partner)
theorem ok_partner (T : Tx P K mg base) (d : Df K mg "partner" s_partner) (O_want_house : T_want_house P w K mg base) (O_partner_of : T_partner_of P w K mg base) (O_want_kept : T_want_kept P w K mg base) : T_partner P w K mg base := by
  refine mkOk d sc_partner (fun _ _ _ _ _ _ us hl => match us, hl with | [_, _], _ => rfl) len2 fun f cdv A outer s H E hr => ?_
  have nd := sc_partner.nd
  refine ⟨_, (pss_cons (ps_set (i := 2) nd rfl (Or.inl rfl) (pe_callO O_want_house (hr.mono (by decide)) (by rfl) (pa_cons (pv 0) pa_nil)))
      (pss_one (ps_ret (pe_callO O_partner_of (hr.mono (by decide)) (by rfl) (pa_cons (pv 2) (pa_cons (pe_callO O_want_kept (hr.mono (by decide)) (by rfl) (pa_cons (pv 2) (pa_cons (pv 1) pa_nil))) pa_nil)))))), fin2 (n := 1) rfl ?_⟩
  intro h v G H Q c k
  refine sg_seq (sg_asg up_true (eg_call1 (eg_var 0 rfl) trivial) (nx_go ?_))
  exact sg_out (eg_call2 (eg_var 2 rfl) (eg_call2 (eg_var 2 rfl) (eg_var 1 rfl) c.1) c.2) k rfl
abbrev s_sum_of_two : Stmt := (topS 108)
abbrev N_sum_of_two : List Str := ["table", "other", "found", "at", "row", "to", "number"]
theorem sc_sum_of_two : FnScope N_sum_of_two ["table", "other"] (defScope s_sum_of_two) := ⟨rfl, rfl, rfl, by decide +kernel, rfl, by decide +kernel, by decide +kernel⟩
abbrev T_sum_of_two (P : Program) (w : World) (K : PySem.W.Frag) (mg : Str → Option Value) (base : Heap) : Prop := Ok P w K mg base "sum_of_two" 46 ["table", "other"] (sp2 (rL (rL rQ)) (rL (rL rQ)) A_sum_of_two rQ m_sum_of_two)
theorem ok_sum_of_two (T : Tx P K mg base) (d : Df K mg "sum_of_two" s_sum_of_two) (M_mul : T_mul P w K mg base) (O_total_of : T_total_of P w K mg base) : T_sum_of_two P w K mg base := by
  refine mkOk d sc_sum_of_two (fun _ _ _ _ _ _ us hl => match us, hl with | [_, _], _ => rfl) len2 fun f cdv A outer s H E hr => ?_
  have nd := sc_sum_of_two.nd
  refine ⟨_, (pss_cons (ps_set (i := 2) nd rfl (Or.inl rfl) (pe_lst pa_nil))
      (pss_cons (ps_for PassesOwn.never rfl (pi_enumK (K := K) rfl (by rfl) T.enumerate (pa_cons (pv 0) pa_nil)) (pg_tupK (K := K) (n := 2) rfl rfl (pgs_cons (pg_name (i := 3) nd rfl (Or.inr rfl)) (pgs_cons (pg_name (i := 4) nd rfl (Or.inl rfl)) pgs_nil))) (pss_one (ps_expr (pe_bm PySem.F.plainAttrs_list PySem.F.slot_list_extend PySem.F.type_list_extend mt_extend (pv 2) (pa_cons (pe_lc (own := [("to", 5), ("number", 6)]) (tt := tYes) rfl nd (pi_enumK (K := K) rfl (by rfl) T.enumerate (pa_cons (pv 4) pa_nil)) (blkOk_by (by kernel_rfl)) (fun _ _ _ _ _ => (pg_tupK (K := K) (n := 2) rfl rfl (pgs_cons (pg_name (i := 5) nd rfl (by first | exact Or.inl rfl | exact Or.inr rfl)) (pgs_cons (pg_name (i := 6) nd rfl (by first | exact Or.inl rfl | exact Or.inr rfl)) pgs_nil)))) (fun _ _ _ _ _ => pts_nil) (fun _ _ _ _ _ => (pe_op (op_ownO M_mul T.selfQ (hr.mono (by decide))) (pv 6) (pe_ix (ix_listK (K := K) rfl) (pe_ix (ix_listK (K := K) rfl) (pv 1) (pv 5) (fun _ _ => rfl)) (pv 3) (fun _ _ => rfl))))) pa_nil)))))
      (pss_one (ps_ret (pe_callO O_total_of (hr.mono (by decide)) (by rfl) (pa_cons (pv 2) pa_nil)))))), fin2 (n := 5) rfl ?_⟩
  intro t o G H Q c k
  obtain ⟨c1, c2, c3, c4, c5, c6⟩ := c
  have lc : ∀ p ∈ enumL t, ((enumL p.2).map fun x => x.2 * atQ (atL o x.1) p.1).length = t.length := fun p hp => by
    rw [List.length_map, enumL_len]
    exact c2.2 p.2 (List.of_mem_zip hp).2
  have pre : ∀ m : Nat, (((enumL t).take m).flatMap fun p => (enumL p.2).map fun x => x.2 * atQ (atL o x.1) p.1).length ≤ 16 := fun m => by
    rw [fm_len _ t.length _ (fun x hx => lc x (List.mem_of_mem_take hx)), List.length_take, enumL_len]
    exact Nat.mul_le_mul (show min m t.length ≤ 4 by omega) c1
  refine sg_seq (sg_own up_true (by simp [nos]) (en_nil rQ) (nx_go ?_))
  refine sg_seq (sg_for up_true (ig_enum (eg_var 0 rfl)) (fun n => [.im rT t, .im rT o, .own rQ (((enumL t).take n).flatMap fun p => (enumL p.2).map fun x => x.2 * atQ (atL o x.1) p.1), .no, .no, .no, .no])
    ⟨.inr rfl, .inr rfl, .inr rfl, .inl rfl, .inl rfl, .inl rfl, .inl rfl, trivial⟩ (fun n p P' hu hp => ⟨_, gl_pair, ?_⟩) ?_)
  · have e := map_flat_take (fun p : Int × List Rat => (enumL p.2).map fun x => x.2 * atQ (atL o x.1) p.1) hp
    have lp := pre (n + 1)
    rw [e, List.length_append] at lp
    have hnt : n < t.length := by
      have := (List.getElem?_eq_some_iff.mp hp).1
      rw [enumL_len] at this
      exact this
    have e0 := enumL_at (xs := t) (i := n) (List.getElem?_eq_getElem hnt)
    have hp1 : p = ((n : Int), t[n]) := by
      have := hp.symm.trans e0
      exact Option.some.inj this
    have lt := c2.2 t[n] (List.getElem_mem hnt)
    refine sg_extend (n := 2) hu rfl (en_lc (f := fun x : Int × Rat => x.2 * atQ (atL o x.1) p.1) (ig_enum (eg_var 4 rfl)) (by decide) (fun m x hx => ⟨_, gt_pair (gt_name (by decide)) (gt_name (by decide)), eg_own (eg_var 6 rfl) (eg_ix (xs := atL o x.1) (eg_ix (xs := o) (eg_var 1 rfl) (eg_var 5 rfl) ?_) (eg_var 3 rfl) ?_) ?_⟩)).eg (by unfold big; omega) (nx_of rfl ⟨.inr rfl, .inr rfl, .inr (by rw [e] <;> rfl), .inl rfl, .inl rfl, .inl rfl, .inl rfl, trivial⟩)
    all_goals
      subst hp1
      have hm : m < (t[n]).length := by
        have := (List.getElem?_eq_some_iff.mp hx).1
        rw [enumL_len] at this
        exact this
      have e1 := enumL_at (xs := t[n]) (i := m) (List.getElem?_eq_getElem hm)
      have hx1 : x = ((m : Int), t[n][m]) := by
        have := hx.symm.trans e1
        exact Option.some.inj this
      subst hx1
      have hmo : m < o.length := by rw [c3.1]; omega
      have mo : atL o (m : Int) ∈ o := by
        unfold atL
        rw [List.getElem?_eq_getElem (by rw [Int.toNat_natCast]; exact hmo)]
        exact List.getElem_mem _
      have lo : n < (atL o (m : Int)).length := by rw [c3.2 _ mo]; exact hnt
    · exact atL_at (by omega) (by rw [Int.toNat_natCast]; exact hmo)
    · exact atQ_at (by omega) (by rw [Int.toNat_natCast]; exact lo)
    · refine ⟨c4 _ (List.getElem_mem hnt) _ (List.getElem_mem hm), c5 _ mo _ ?_⟩
      unfold atQ
      rw [Int.toNat_natCast, List.getElem?_eq_getElem lo]
      exact List.getElem_mem _
  · rw [List.take_length]
    exact sg_freeze (n := 2) up_true rfl (sg_out (eg_call1 (eg_var 2 rfl) c6) k rfl)
abbrev s_sums_of : Stmt := (topS 109)
abbrev N_sums_of : List Str := ["base", "tables", "one", "near", "far"]
theorem sc_sums_of : FnScope N_sums_of ["base"] (defScope s_sums_of) := ⟨rfl, rfl, rfl, by decide +kernel, rfl, by decide +kernel, by decide +kernel⟩
abbrev T_sums_of (P : Program) (w : World) (K : PySem.W.Frag) (mg : Str → Option Value) (base : Heap) : Prop := Ok P w K mg base "sums_of" 47 ["base"] (sp1 (rL (rP (rL rI) (rL (rL rQ)))) A_sums_of (rL (rL rQ)) m_sums_of)
theorem ok_sums_of (T : Tx P K mg base) (d : Df K mg "sums_of" s_sums_of) (O_sum_of_two : T_sum_of_two P w K mg base) : T_sums_of P w K mg base := by
  refine mkOk d sc_sums_of (fun _ _ _ _ _ _ us hl => match us, hl with | [_], _ => rfl) len1 fun f cdv A outer s H E hr => ?_
  have nd := sc_sums_of.nd
  refine ⟨_, (pss_cons (ps_set (i := 1) nd rfl (Or.inr rfl) (pe_lc (own := [("one", 2)]) (g := gName 2) (tt := tYes) rfl nd (pi_listK (K := K) rfl (pv 0)) (blkOk_by (by kernel_rfl)) (fun _ _ _ _ _ => (pg_name (i := 2) nd rfl (by first | exact Or.inl rfl | exact Or.inr rfl))) (fun _ _ _ _ _ => pts_nil) (fun _ _ _ _ _ => (pe_ix (ix_tupK (K := K) rfl) (pv 2) pe_int (fun _ _ => rfl)))))
      (pss_one (ps_ret (pe_lc (own := [("near", 3)]) (g := gName 3) (tt := tYes) rfl nd (pi_listK (K := K) rfl (pv 1)) (blkOk_by (by kernel_rfl)) (fun _ _ _ _ _ => (pg_name (i := 3) nd rfl (by first | exact Or.inl rfl | exact Or.inr rfl))) (fun _ _ _ _ _ => pts_nil) (fun _ _ _ _ _ => (pe_lc (own := [("far", 4)]) (g := gName 4) (tt := tYes) rfl nd (pi_listK (K := K) rfl (pv 1)) (blkOk_by (by kernel_rfl)) (fun _ _ _ _ _ => (pg_name (i := 4) nd rfl (by first | exact Or.inl rfl | exact Or.inr rfl))) (fun _ _ _ _ _ => pts_nil) (fun _ _ _ _ _ => (pe_callO O_sum_of_two (hr.mono (by decide)) (by rfl) (pa_cons (pv 3) (pa_cons (pv 4) pa_nil)))))))))), fin1 (n := 4) rfl ?_⟩
  intro b G H Q c k
  refine sg_seq (sg_asg up_true (en_lc (f := fun p : List Int × Tab => p.2) (ig_list (eg_var 0 rfl)) (by decide) (fun n p hp => ⟨_, gt_name (by decide), eg_snd (eg_var 2 rfl) eg_int⟩)).eg (nx_go ?_))
  refine sg_out (en_lc (f := fun n : Tab => (b.map fun p : List Int × Tab => p.2).map fun f => m_sum_of_two n f) (ig_list (eg_var 1 rfl)) (by decide) (fun n x hx => ⟨_, gt_name (by decide), (en_lc (f := fun f => m_sum_of_two x f) (ig_list (eg_var 1 rfl)) (by decide) (fun m y hy => ⟨_, gt_name (by decide), eg_call2 (eg_var 3 rfl) (eg_var 4 rfl) ?_⟩)).eg⟩)).eg k rfl
  obtain ⟨p, hp, rfl⟩ := List.mem_map.mp (mem_of_at hx)
  obtain ⟨q, hq, rfl⟩ := List.mem_map.mp (mem_of_at hy)
  exact c p hp q hq
abbrev s_rank_of : Stmt := (topS 110)
abbrev N_rank_of : List Str := ["rows"]
theorem sc_rank_of : FnScope N_rank_of ["rows"] (defScope s_rank_of) := ⟨rfl, rfl, rfl, by decide +kernel, rfl, by decide +kernel, by decide +kernel⟩
abbrev T_rank_of (P : Program) (w : World) (K : PySem.W.Frag) (mg : Str → Option Value) (base : Heap) : Prop := Ok P w K mg base "rank_of" 46 ["rows"] (sp1 (rL (rL rQ)) A_rank_of rI m_rank_of)
theorem ok_rank_of (T : Tx P K mg base) (d : Df K mg "rank_of" s_rank_of) (O_steps_of : T_steps_of P w K mg base) : T_rank_of P w K mg base := by
  refine mkOk d sc_rank_of (fun _ _ _ _ _ _ us hl => match us, hl with | [_], _ => rfl) len1 fun f cdv A outer s H E hr => ?_
  have nd := sc_rank_of.nd
  refine ⟨_, (pss_one (ps_ret (pe_callB (call_lenK (K := K) rfl) (by rfl) T.len bt_len (pa_cons (pe_callO O_steps_of (hr.mono (by decide)) (by rfl) (pa_cons (pv 0) pa_nil)) pa_nil)))), fin1 (n := 0) rfl ?_⟩
  intro rows G H Q c k
  exact sg_out (eg_len (eg_call1 (eg_var 0 rfl) c)) k rfl
abbrev s_parts_of : Stmt := (topS 111)
abbrev N_parts_of : List Str := ["house", "base"]
theorem sc_parts_of : FnScope N_parts_of ["house"] (defScope s_parts_of) := ⟨rfl, rfl, rfl, by decide +kernel, rfl, by decide +kernel, by decide +kernel⟩
abbrev T_parts_of (P : Program) (w : World) (K : PySem.W.Frag) (mg : Str → Option Value) (base : Heap) : Prop := Ok P w K mg base "parts_of" 48 ["house"] (sp1 rH A_parts_of rB m_parts_of)
theorem ok_parts_of (T : Tx P K mg base) (d : Df K mg "parts_of" s_parts_of) (O_base_of : T_base_of P w K mg base) (O_rank_of : T_rank_of P w K mg base) (O_sums_of : T_sums_of P w K mg base) : T_parts_of P w K mg base := by
  refine mkOk d sc_parts_of (fun _ _ _ _ _ _ us hl => match us, hl with | [_], _ => rfl) len1 fun f cdv A outer s H E hr => ?_
  have nd := sc_parts_of.nd
  refine ⟨_, (pss_cons (ps_set (i := 1) nd rfl (Or.inl rfl) (pe_callO O_base_of (hr.mono (by decide)) (by rfl) (pa_cons (pv 0) pa_nil)))
      (pss_one (ps_ret (pe_cmpR op_eq (pe_callO O_rank_of (hr.mono (by decide)) (by rfl) (pa_cons (pe_callO O_sums_of (hr.mono (by decide)) (by rfl) (pa_cons (pv 1) pa_nil)) pa_nil)) (pe_callB (call_lenK (K := K) rfl) (by rfl) T.len bt_len (pa_cons (pv 1) pa_nil)) (nomark _))))), fin1 (n := 1) rfl ?_⟩
  intro h G H Q c k
  obtain ⟨c1, c2, c3⟩ := c
  refine sg_seq (sg_asg up_true (eg_call1 (eg_var 0 rfl) c1) (nx_go ?_))
  exact sg_out (eg_eq (eg_call1 (eg_call1 (eg_var 1 rfl) c2) c3) (eg_len (eg_var 1 rfl))) k rfl
abbrev s_parts : Stmt := (topS 112)
abbrev N_parts : List Str := ["house"]
theorem sc_parts : FnScope N_parts ["house"] (defScope s_parts) := ⟨rfl, rfl, rfl, by decide +kernel, rfl, by decide +kernel, by decide +kernel⟩
abbrev T_parts (P : Program) (w : World) (K : PySem.W.Frag) (mg : Str → Option Value) (base : Heap) : Prop := Ok P w K mg base "parts" 49 ["house"] (sp1 rH A_parts rB m_parts)
theorem ok_parts (T : Tx P K mg base) (d : Df K mg "parts" s_parts) (O_want_house : T_want_house P w K mg base) (O_parts_of : T_parts_of P w K mg base) : T_parts P w K mg base := by
  refine mkOk d sc_parts (fun _ _ _ _ _ _ us hl => match us, hl with | [_], _ => rfl) len1 fun f cdv A outer s H E hr => ?_
  have nd := sc_parts.nd
  refine ⟨_, (pss_cons (ps_expr (pe_callO O_want_house (hr.mono (by decide)) (by rfl) (pa_cons (pv 0) pa_nil)))
      (pss_one (ps_ret (pe_callO O_parts_of (hr.mono (by decide)) (by rfl) (pa_cons (pv 0) pa_nil))))), fin1 (n := 0) rfl ?_⟩
  intro h G H Q c k
  refine sg_seq (sg_drop up_true (eg_call1 (eg_var 0 rfl) trivial) (nx_go ?_))
  exact sg_out (eg_call1 (eg_var 0 rfl) c) k rfl
abbrev A_counts (h : Hou) : Prop := A_parts_of h ∧ m_parts_of h = true ∧ A_commuting_of h ∧ A_middle_of h
abbrev m_counts (h : Hou) : Int × Int × Int := (((m_base_of h).length : Int), ((m_commuting_of h).length : Int), ((m_middle_of h).length : Int))
abbrev s_counts : Stmt := (topS 113)
abbrev N_counts : List Str := ["house"]
theorem sc_counts : FnScope N_counts ["house"] (defScope s_counts) := ⟨rfl, rfl, rfl, by decide +kernel, rfl, by decide +kernel, by decide +kernel⟩
abbrev T_counts (P : Program) (w : World) (K : PySem.W.Frag) (mg : Str → Option Value) (base : Heap) : Prop := Ok P w K mg base "counts" 50 ["house"] (sp1 rH A_counts (rP3 rI rI rI) m_counts)
theorem ok_counts (T : Tx P K mg base) (d : Df K mg "counts" s_counts) (O_want_house : T_want_house P w K mg base) (O_parts_of : T_parts_of P w K mg base) (O_base_of : T_base_of P w K mg base) (O_commuting_of : T_commuting_of P w K mg base) (O_middle_of : T_middle_of P w K mg base) : T_counts P w K mg base := by
  refine mkOk d sc_counts (fun _ _ _ _ _ _ us hl => match us, hl with | [_], _ => rfl) len1 fun f cdv A outer s H E hr => ?_
  have nd := sc_counts.nd
  refine ⟨_, (pss_cons (ps_expr (pe_callO O_want_house (hr.mono (by decide)) (by rfl) (pa_cons (pv 0) pa_nil)))
      (pss_cons (ps_if (pt_not (pt_val (pe_callO O_parts_of (hr.mono (by decide)) (by rfl) (pa_cons (pv 0) pa_nil)))) pss_never pss_nil)
      (pss_one (ps_ret (pe_tup (pa_cons (pe_callB (call_lenK (K := K) rfl) (by rfl) T.len bt_len (pa_cons (pe_callO O_base_of (hr.mono (by decide)) (by rfl) (pa_cons (pv 0) pa_nil)) pa_nil)) (pa_cons (pe_callB (call_lenK (K := K) rfl) (by rfl) T.len bt_len (pa_cons (pe_callO O_commuting_of (hr.mono (by decide)) (by rfl) (pa_cons (pv 0) pa_nil)) pa_nil)) (pa_cons (pe_callB (call_lenK (K := K) rfl) (by rfl) T.len bt_len (pa_cons (pe_callO O_middle_of (hr.mono (by decide)) (by rfl) (pa_cons (pv 0) pa_nil)) pa_nil)) pa_nil)))))))), fin1 (n := 0) rfl ?_⟩
  intro h G H Q c k
  obtain ⟨c1, c2, c3, c4⟩ := c
  refine sg_seq (sg_drop up_true (eg_call1 (eg_var 0 rfl) trivial) (nx_go ?_))
  refine sg_seq (sg_ifF (b := !m_parts_of h) up_true (tg_not (tg_B (eg_call1 (eg_var 0 rfl) c1))) (by rw [c2]; rfl) (sg_next (nx_go ?_)))
  exact sg_out (eg_tup3 (eg_len (eg_call1 (eg_var 0 rfl) c1.1)) (eg_len (eg_call1 (eg_var 0 rfl) c3)) (eg_len (eg_call1 (eg_var 0 rfl) c4))) k rfl
end
end TW
set_option Elab.async false
set_option linter.all false
set_option maxRecDepth 100000
set_option maxHeartbeats 4000000
/-! promises of none and of four arguments; tuples of four -/
namespace TW
open PySem PySem.Spec PyProof.Rows L2
def rP4 {α β γ δ : Type} (R : RT α) (S : RT β) (U : RT γ) (W : RT δ) : RT (α × β × γ × δ) := ⟨fun G v x => ∃ a v1 v2 v3 v4, v = .ref a ∧ G a = some (.tup [v1, v2, v3, v4]) ∧ R.rel G v1 x.1 ∧ S.rel G v2 x.2.1 ∧ U.rel G v3 x.2.2.1 ∧ W.rel G v4 x.2.2.2,
  fun s ⟨a, v1, v2, v3, v4, e, h, r1, r2, r3, r4⟩ => ⟨a, v1, v2, v3, v4, e, s _ _ h, R.mono s r1, S.mono s r2, U.mono s r3, W.mono s r4⟩⟩
section
variable {Γ : List Sl} {ta tb tc td : TE} {α β γ δ ε : Type} {R : RT α} {S : RT β} {U : RT γ} {W : RT δ} {Z : RT ε} {x : α} {y : β} {z : γ} {u : δ}
theorem eg_tup4 (ha : EG Γ ta R x) (hb : EG Γ tb S y) (hc : EG Γ tc U z) (hd : EG Γ td W u) : EG Γ (tTup (tCons ta (tCons tb (tCons tc (tCons td tNil))))) (rP4 R S U W) (x, y, z, u) := fun H0 σ G H Q h0 s t k =>
  ha H0 σ G H _ h0 s t fun v1 G1 H1 p1 r1 => hb H0 σ G1 H1 _ (h0.trans p1.h) p1.s (t.step p1) fun v2 G2 H2 p2 r2 => by
    have pp := p1.trans p2
    refine hc H0 σ G2 H2 _ (h0.trans pp.h) pp.s (t.step pp) fun v3 G3 H3 p3 r3 => ?_
    have pq := pp.trans p3
    refine hd H0 σ G3 H3 _ (h0.trans pq.h) pq.s (t.step pq) fun v4 G4 H4 p4 r4 => ⟨(by decide : 4 ≤ sizeLine), fun q hq => ?_⟩
    have st := Step.new (o := .tup [v1, v2, v3, v4]) p4.s hq
    have gg : Same G4 (upd G4 q (.tup [v1, v2, v3, v4])) := st.g
    exact k _ _ _ ((pq.trans p4).trans st) ⟨q, v1, v2, v3, v4, rfl, upd_same, R.mono (((p2.g.trans p3.g).trans p4.g).trans gg) r1, S.mono ((p3.g.trans p4.g).trans gg) r2, U.mono (p4.g.trans gg) r3, W.mono gg r4⟩
theorem eg_p41 {o : α × β × γ × δ} {K : PySem.W.Frag} (ha : EG Γ ta (rP4 R S U W) o) (hb : EG Γ tb rI 0) : EG Γ (tOp (rIxT K) ta tb) R o.1 := fun H0 σ G H Q h0 s t k =>
  eg_two ha hb h0 s t fun v w G1 H1 p r1 r2 => by
    obtain ⟨a, v1, v2, v3, v4, e, g, q1, q2, q3, q4⟩ := r1
    exact ⟨a, [v1, v2, v3, v4], 0, v1, e, r2, st_of (p.s _ _ g), rfl, k _ G1 H1 p q1⟩
theorem eg_p42 {o : α × β × γ × δ} {K : PySem.W.Frag} (ha : EG Γ ta (rP4 R S U W) o) (hb : EG Γ tb rI 1) : EG Γ (tOp (rIxT K) ta tb) S o.2.1 := fun H0 σ G H Q h0 s t k =>
  eg_two ha hb h0 s t fun v w G1 H1 p r1 r2 => by
    obtain ⟨a, v1, v2, v3, v4, e, g, q1, q2, q3, q4⟩ := r1
    exact ⟨a, [v1, v2, v3, v4], 1, v2, e, r2, st_of (p.s _ _ g), rfl, k _ G1 H1 p q2⟩
theorem eg_p43 {o : α × β × γ × δ} {K : PySem.W.Frag} (ha : EG Γ ta (rP4 R S U W) o) (hb : EG Γ tb rI 2) : EG Γ (tOp (rIxT K) ta tb) U o.2.2.1 := fun H0 σ G H Q h0 s t k =>
  eg_two ha hb h0 s t fun v w G1 H1 p r1 r2 => by
    obtain ⟨a, v1, v2, v3, v4, e, g, q1, q2, q3, q4⟩ := r1
    exact ⟨a, [v1, v2, v3, v4], 2, v3, e, r2, st_of (p.s _ _ g), rfl, k _ G1 H1 p q3⟩
theorem eg_p44 {o : α × β × γ × δ} {K : PySem.W.Frag} (ha : EG Γ ta (rP4 R S U W) o) (hb : EG Γ tb rI 3) : EG Γ (tOp (rIxT K) ta tb) W o.2.2.2 := fun H0 σ G H Q h0 s t k =>
  eg_two ha hb h0 s t fun v w G1 H1 p r1 r2 => by
    obtain ⟨a, v1, v2, v3, v4, e, g, q1, q2, q3, q4⟩ := r1
    exact ⟨a, [v1, v2, v3, v4], 3, v4, e, r2, st_of (p.s _ _ g), rfl, k _ G1 H1 p q4⟩
def sp0 (S : RT β) (y : β) : Sp := fun vs H Q _ => ∃ G, vs = [] ∧ Same G H ∧ ∀ u G' H', Step G H G' H' → S.rel G' u y → Q u H'
theorem len0 : ∀ vs H Q E, sp0 S y vs H Q E → vs.length = 0 := fun vs H Q E ⟨G, e, _⟩ => by rw [e]; rfl
theorem eg_call0 {E : XK} : EG Γ (tCall (sp0 S y) [] E tNil) S y := fun H0 σ G H Q h0 s t k => ⟨G, rfl, s, k⟩
theorem fin0 {N : List Str} {t : TS} {E : XK} {n : Nat} (hn : N.length = n)
    (h : ∀ (G H : Hp) (Q : VK), Rets S y G H Q → Sg G H (fun _ => True) (nos n) t { nx := fun _ H' => Q .non H', rt := Q }) :
    ∀ (vs : List V) (H' : Hp) (Q : VK), sp0 S y vs H' Q E → t { nx := fun _ H' => Q .non H', rt := Q } (L2.start N vs) H' := fun vs H Q ⟨G, e, s, k⟩ => by
  subst e
  exact h G H Q k _ H ⟨G, Step.refl s, trivial, Ini.ty (.nil n) (by rw [nos_len, hn])⟩
def sp4 (R : RT α) (S : RT β) (U : RT γ) (W : RT δ) (A : α → β → γ → δ → Prop) (Z : RT ε) (f : α → β → γ → δ → ε) : Sp := fun vs H Q _ => ∃ v w r q x y z u G, vs = [v, w, r, q] ∧ Same G H ∧ R.rel G v x ∧ S.rel G w y ∧ U.rel G r z ∧ W.rel G q u ∧ A x y z u ∧ ∀ o G' H', Step G H G' H' → Z.rel G' o (f x y z u) → Q o H'
theorem len4 {A : α → β → γ → δ → Prop} {f : α → β → γ → δ → ε} : ∀ vs H Q E, sp4 R S U W A Z f vs H Q E → vs.length = 4 := fun vs H Q E ⟨v, _, _, _, x, _, _, _, G, e, _⟩ => by rw [e]; rfl
theorem eg_call4 {A : α → β → γ → δ → Prop} {f : α → β → γ → δ → ε} {E : XK} (ha : EG Γ ta R x) (hb : EG Γ tb S y) (hc : EG Γ tc U z) (hd : EG Γ td W u) (c : A x y z u) :
    EG Γ (tCall (sp4 R S U W A Z f) [] E (tCons ta (tCons tb (tCons tc (tCons td tNil))))) Z (f x y z u) := fun H0 σ G H Q h0 s t k =>
  ha H0 σ G H _ h0 s t fun v1 G1 H1 p1 r1 => hb H0 σ G1 H1 _ (h0.trans p1.h) p1.s (t.step p1) fun v2 G2 H2 p2 r2 => by
    have pp := p1.trans p2
    refine hc H0 σ G2 H2 _ (h0.trans pp.h) pp.s (t.step pp) fun v3 G3 H3 p3 r3 => ?_
    have pq := pp.trans p3
    refine hd H0 σ G3 H3 _ (h0.trans pq.h) pq.s (t.step pq) fun v4 G4 H4 p4 r4 => ?_
    exact ⟨v1, v2, v3, v4, x, y, z, u, G4, rfl, p4.s, R.mono ((p2.g.trans p3.g).trans p4.g) r1, S.mono (p3.g.trans p4.g) r2, U.mono p4.g r3, r4, c, fun o G5 H5 p5 r5 => k o G5 H5 ((pq.trans p4).trans p5) r5⟩
theorem fin4 {N : List Str} {t : TS} {E : XK} {A : α → β → γ → δ → Prop} {f : α → β → γ → δ → ε} {n : Nat} (hn : N.length = n + 4)
    (h : ∀ (x : α) (y : β) (z : γ) (u : δ) (G H : Hp) (Q : VK), A x y z u → Rets Z (f x y z u) G H Q → Sg G H (fun _ => True) (.im R x :: .im S y :: .im U z :: .im W u :: nos n) t { nx := fun _ H' => Q .non H', rt := Q }) :
    ∀ (vs : List V) (H' : Hp) (Q : VK), sp4 R S U W A Z f vs H' Q E → t { nx := fun _ H' => Q .non H', rt := Q } (L2.start N vs) H' := fun vs H Q ⟨v, w, r', q', x, y, z, u, G, e, s, r, r2, r3, r4, c, k⟩ => by
  subst e
  exact h x y z u G H Q c k _ H ⟨G, Step.refl s, trivial, Ini.ty (.cons r (.cons r2 (.cons r3 (.cons r4 (.nil n))))) (by rw [List.length_cons, List.length_cons, List.length_cons, List.length_cons, nos_len, hn])⟩
theorem pe_callO0 {X : Cx} {k : Nat} {x : Str} {sp : Sp} {p pos : Pos} (O : Ok X.prog X.w X.K X.mg X.base x k [] sp) (hr : Room k X.A) (hg : Gl X x) (hdb : (x == ("__debug__" : Str)) = false := by decide) : PE X (.Call (.Name x p) [] [] pos) (tCall sp [] E0 tNil) := by
  obtain ⟨f, fd, h1, h2, h3, h4⟩ := O.ex
  exact pe_call0 h4 hr hg h1 h2 h3 .nil pass0 hdb
end
end TW
set_option Elab.async false
set_option linter.all false
set_option maxRecDepth 100000
set_option maxHeartbeats 4000000
namespace TW
open PySem PySem.Spec PyProof.Rows L2
abbrev Kind := List (List (List Int)) × Int × Int × Int
abbrev rKn : RT Kind := rP4 (rL (rL (rL rI))) rI rI rI
def m__law_known : List Kind := [([[[1]], [[0]]], 1, 1, 1), ([[[2]], [[0]]], 1, 1, 1), ([[[0]], [[3]]], 1, 1, 1), ([[[-1]], [[1]]], 1, 1, 1), ([[[0, -1], [1, 0]], [[1, 0], [0, 1]]], 2, 2, 2), ([[[0, -1], [1, 0]], [[2, 0], [0, 2]]], 2, 2, 2), ([[[0, 2], [1, 0]], [[0, 0], [0, 0]]], 2, 2, 2), ([[[1, 1], [0, 1]], [[1, 0], [1, 1]]], 4, 1, 1)]
def beside0 (t o : List (List Int)) : List (List Int) := (t.map fun r => r ++ List.replicate o.length 0) ++ o.map fun r => List.replicate t.length 0 ++ r
abbrev m__law_beside (t o : List (List Int)) : List (List Int) := beside0 t o
abbrev A__law_beside (t o : List (List Int)) : Prop := t.length < 1000 ∧ o.length < 1000 ∧ (∀ r ∈ t, r.length < 1000) ∧ ∀ r ∈ o, r.length < 1000
def rowAdd (t : List (List Int)) (one other much : Int) : List (List Int) := t.set one.toNat (((atL t one).zip (atL t other)).map fun p => p.1 + much * p.2)
def colSub (r : List Int) (one other much : Int) : List Int := (upto r.length).map fun a => if a = other then at0 r a - much * at0 r one else at0 r a
def m__law_changed (t : List (List Int)) (one other much : Int) : List (List Int) := (rowAdd t one other much).map fun r => colSub r one other much
def A__law_changed (t : List (List Int)) (one other much : Int) : Prop := t.length < 1000 ∧ inR t one ∧ inR t other ∧ Sm much ∧ (∀ r ∈ t, r.length = t.length ∧ ∀ x ∈ r, Sm x) ∧ ∀ r ∈ rowAdd t one other much, ∀ x ∈ r, Sm x
section
variable {P : Program} {w : World} {K : PySem.W.Frag} {mg : Str → Option Value} {base : Heap}
abbrev s__law_known : Stmt := (topS 118)
abbrev N__law_known : List Str := ["_law_found"]
theorem sc__law_known : FnScope N__law_known [] (defScope s__law_known) := ⟨rfl, rfl, rfl, by decide +kernel, rfl, by decide +kernel, by decide +kernel⟩
abbrev T__law_known (P : Program) (w : World) (K : PySem.W.Frag) (mg : Str → Option Value) (base : Heap) : Prop := Ok P w K mg base "_law_known" 41 [] (sp0 (rL (rP4 (rL (rL (rL rI))) rI rI rI)) m__law_known)
theorem ok__law_known (T : Tx P K mg base) (d : Df K mg "_law_known" s__law_known) : T__law_known P w K mg base := by
  refine mkOk d sc__law_known (fun _ _ _ _ _ _ us hl => match us, hl with | [], _ => rfl) len0 fun f cdv A outer s H E hr => ?_
  have nd := sc__law_known.nd
  refine ⟨_, (pss_cons (ps_set (i := 0) nd rfl (Or.inl rfl) (pe_lst (pa_cons (pe_tup (pa_cons (pe_lst (pa_cons (pe_lst (pa_cons (pe_lst (pa_cons pe_int pa_nil)) pa_nil)) (pa_cons (pe_lst (pa_cons (pe_lst (pa_cons pe_int pa_nil)) pa_nil)) pa_nil))) (pa_cons pe_int (pa_cons pe_int (pa_cons pe_int pa_nil))))) (pa_cons (pe_tup (pa_cons (pe_lst (pa_cons (pe_lst (pa_cons (pe_lst (pa_cons pe_int pa_nil)) pa_nil)) (pa_cons (pe_lst (pa_cons (pe_lst (pa_cons pe_int pa_nil)) pa_nil)) pa_nil))) (pa_cons pe_int (pa_cons pe_int (pa_cons pe_int pa_nil))))) (pa_cons (pe_tup (pa_cons (pe_lst (pa_cons (pe_lst (pa_cons (pe_lst (pa_cons pe_int pa_nil)) pa_nil)) (pa_cons (pe_lst (pa_cons (pe_lst (pa_cons pe_int pa_nil)) pa_nil)) pa_nil))) (pa_cons pe_int (pa_cons pe_int (pa_cons pe_int pa_nil))))) (pa_cons (pe_tup (pa_cons (pe_lst (pa_cons (pe_lst (pa_cons (pe_lst (pa_cons (pe_un un_neg pe_int) pa_nil)) pa_nil)) (pa_cons (pe_lst (pa_cons (pe_lst (pa_cons pe_int pa_nil)) pa_nil)) pa_nil))) (pa_cons pe_int (pa_cons pe_int (pa_cons pe_int pa_nil))))) pa_nil))))))
      (pss_cons (ps_expr (pe_bm PySem.F.plainAttrs_list PySem.F.slot_list_append PySem.F.type_list_append mt_append (pv 0) (pa_cons (pe_tup (pa_cons (pe_lst (pa_cons (pe_lst (pa_cons (pe_lst (pa_cons pe_int (pa_cons (pe_un un_neg pe_int) pa_nil))) (pa_cons (pe_lst (pa_cons pe_int (pa_cons pe_int pa_nil))) pa_nil))) (pa_cons (pe_lst (pa_cons (pe_lst (pa_cons pe_int (pa_cons pe_int pa_nil))) (pa_cons (pe_lst (pa_cons pe_int (pa_cons pe_int pa_nil))) pa_nil))) pa_nil))) (pa_cons pe_int (pa_cons pe_int (pa_cons pe_int pa_nil))))) pa_nil)))
      (pss_cons (ps_expr (pe_bm PySem.F.plainAttrs_list PySem.F.slot_list_append PySem.F.type_list_append mt_append (pv 0) (pa_cons (pe_tup (pa_cons (pe_lst (pa_cons (pe_lst (pa_cons (pe_lst (pa_cons pe_int (pa_cons (pe_un un_neg pe_int) pa_nil))) (pa_cons (pe_lst (pa_cons pe_int (pa_cons pe_int pa_nil))) pa_nil))) (pa_cons (pe_lst (pa_cons (pe_lst (pa_cons pe_int (pa_cons pe_int pa_nil))) (pa_cons (pe_lst (pa_cons pe_int (pa_cons pe_int pa_nil))) pa_nil))) pa_nil))) (pa_cons pe_int (pa_cons pe_int (pa_cons pe_int pa_nil))))) pa_nil)))
      (pss_cons (ps_expr (pe_bm PySem.F.plainAttrs_list PySem.F.slot_list_append PySem.F.type_list_append mt_append (pv 0) (pa_cons (pe_tup (pa_cons (pe_lst (pa_cons (pe_lst (pa_cons (pe_lst (pa_cons pe_int (pa_cons pe_int pa_nil))) (pa_cons (pe_lst (pa_cons pe_int (pa_cons pe_int pa_nil))) pa_nil))) (pa_cons (pe_lst (pa_cons (pe_lst (pa_cons pe_int (pa_cons pe_int pa_nil))) (pa_cons (pe_lst (pa_cons pe_int (pa_cons pe_int pa_nil))) pa_nil))) pa_nil))) (pa_cons pe_int (pa_cons pe_int (pa_cons pe_int pa_nil))))) pa_nil)))
      (pss_one (ps_ret (pe_op op_cat (pv 0) (pe_lst (pa_cons (pe_tup (pa_cons (pe_lst (pa_cons (pe_lst (pa_cons (pe_lst (pa_cons pe_int (pa_cons pe_int pa_nil))) (pa_cons (pe_lst (pa_cons pe_int (pa_cons pe_int pa_nil))) pa_nil))) (pa_cons (pe_lst (pa_cons (pe_lst (pa_cons pe_int (pa_cons pe_int pa_nil))) (pa_cons (pe_lst (pa_cons pe_int (pa_cons pe_int pa_nil))) pa_nil))) pa_nil))) (pa_cons pe_int (pa_cons pe_int (pa_cons pe_int pa_nil))))) pa_nil))))))))), fin0 (n := 1) rfl ?_⟩
  intro G H Q k
  refine sg_seq (sg_own up_true (by simp [nos]) ((en_lst (er_cons (eg_tup4 (en_lst (er_cons (en_lst (er_cons (en_lst (er_cons eg_int er_nil) (show 1 < big by decide)).eg er_nil) (show 1 < big by decide)).eg (er_cons (en_lst (er_cons (en_lst (er_cons eg_int er_nil) (show 1 < big by decide)).eg er_nil) (show 1 < big by decide)).eg er_nil)) (show 2 < big by decide)).eg eg_int eg_int eg_int) (er_cons (eg_tup4 (en_lst (er_cons (en_lst (er_cons (en_lst (er_cons eg_int er_nil) (show 1 < big by decide)).eg er_nil) (show 1 < big by decide)).eg (er_cons (en_lst (er_cons (en_lst (er_cons eg_int er_nil) (show 1 < big by decide)).eg er_nil) (show 1 < big by decide)).eg er_nil)) (show 2 < big by decide)).eg eg_int eg_int eg_int) (er_cons (eg_tup4 (en_lst (er_cons (en_lst (er_cons (en_lst (er_cons eg_int er_nil) (show 1 < big by decide)).eg er_nil) (show 1 < big by decide)).eg (er_cons (en_lst (er_cons (en_lst (er_cons eg_int er_nil) (show 1 < big by decide)).eg er_nil) (show 1 < big by decide)).eg er_nil)) (show 2 < big by decide)).eg eg_int eg_int eg_int) (er_cons (eg_tup4 (en_lst (er_cons (en_lst (er_cons (en_lst (er_cons (eg_neg eg_int) er_nil) (show 1 < big by decide)).eg er_nil) (show 1 < big by decide)).eg (er_cons (en_lst (er_cons (en_lst (er_cons eg_int er_nil) (show 1 < big by decide)).eg er_nil) (show 1 < big by decide)).eg er_nil)) (show 2 < big by decide)).eg eg_int eg_int eg_int) er_nil)))) (show 4 < big by decide)) : EN _ _ rKn _) (nx_go ?_))
  refine sg_seq (sg_append (n := 0) up_true rfl (eg_tup4 (en_lst (er_cons (en_lst (er_cons (en_lst (er_cons eg_int (er_cons (eg_neg eg_int) er_nil)) (show 2 < big by decide)).eg (er_cons (en_lst (er_cons eg_int (er_cons eg_int er_nil)) (show 2 < big by decide)).eg er_nil)) (show 2 < big by decide)).eg (er_cons (en_lst (er_cons (en_lst (er_cons eg_int (er_cons eg_int er_nil)) (show 2 < big by decide)).eg (er_cons (en_lst (er_cons eg_int (er_cons eg_int er_nil)) (show 2 < big by decide)).eg er_nil)) (show 2 < big by decide)).eg er_nil)) (show 2 < big by decide)).eg eg_int eg_int eg_int) (show _ < big by simp [big]) (nx_go ?_))
  refine sg_seq (sg_append (n := 0) up_true rfl (eg_tup4 (en_lst (er_cons (en_lst (er_cons (en_lst (er_cons eg_int (er_cons (eg_neg eg_int) er_nil)) (show 2 < big by decide)).eg (er_cons (en_lst (er_cons eg_int (er_cons eg_int er_nil)) (show 2 < big by decide)).eg er_nil)) (show 2 < big by decide)).eg (er_cons (en_lst (er_cons (en_lst (er_cons eg_int (er_cons eg_int er_nil)) (show 2 < big by decide)).eg (er_cons (en_lst (er_cons eg_int (er_cons eg_int er_nil)) (show 2 < big by decide)).eg er_nil)) (show 2 < big by decide)).eg er_nil)) (show 2 < big by decide)).eg eg_int eg_int eg_int) (show _ < big by simp [big]) (nx_go ?_))
  refine sg_seq (sg_append (n := 0) up_true rfl (eg_tup4 (en_lst (er_cons (en_lst (er_cons (en_lst (er_cons eg_int (er_cons eg_int er_nil)) (show 2 < big by decide)).eg (er_cons (en_lst (er_cons eg_int (er_cons eg_int er_nil)) (show 2 < big by decide)).eg er_nil)) (show 2 < big by decide)).eg (er_cons (en_lst (er_cons (en_lst (er_cons eg_int (er_cons eg_int er_nil)) (show 2 < big by decide)).eg (er_cons (en_lst (er_cons eg_int (er_cons eg_int er_nil)) (show 2 < big by decide)).eg er_nil)) (show 2 < big by decide)).eg er_nil)) (show 2 < big by decide)).eg eg_int eg_int eg_int) (show _ < big by simp [big]) (nx_go ?_))
  refine sg_freeze (n := 0) up_true rfl ?_
  refine sg_out (en_cat (eg_var 0 rfl) ((en_lst (er_cons (eg_tup4 (en_lst (er_cons (en_lst (er_cons (en_lst (er_cons eg_int (er_cons eg_int er_nil)) (show 2 < big by decide)).eg (er_cons (en_lst (er_cons eg_int (er_cons eg_int er_nil)) (show 2 < big by decide)).eg er_nil)) (show 2 < big by decide)).eg (er_cons (en_lst (er_cons (en_lst (er_cons eg_int (er_cons eg_int er_nil)) (show 2 < big by decide)).eg (er_cons (en_lst (er_cons eg_int (er_cons eg_int er_nil)) (show 2 < big by decide)).eg er_nil)) (show 2 < big by decide)).eg er_nil)) (show 2 < big by decide)).eg eg_int eg_int eg_int) er_nil) (show 1 < big by decide))).eg (show _ < big by simp [big])).eg (k.cast ?_) rfl
  rfl
abbrev s__law_beside : Stmt := (topS 120)
abbrev N__law_beside : List Str := ["_law_one", "_law_other", "_law_found", "_law_row"]
theorem sc__law_beside : FnScope N__law_beside ["_law_one", "_law_other"] (defScope s__law_beside) := ⟨rfl, rfl, rfl, by decide +kernel, rfl, by decide +kernel, by decide +kernel⟩
abbrev T__law_beside (P : Program) (w : World) (K : PySem.W.Frag) (mg : Str → Option Value) (base : Heap) : Prop := Ok P w K mg base "_law_beside" 41 ["_law_one", "_law_other"] (sp2 (rL (rL rI)) (rL (rL rI)) A__law_beside (rL (rL rI)) m__law_beside)
theorem ok__law_beside (T : Tx P K mg base) (d : Df K mg "_law_beside" s__law_beside) : T__law_beside P w K mg base := by
  refine mkOk d sc__law_beside (fun _ _ _ _ _ _ us hl => match us, hl with | [_, _], _ => rfl) len2 fun f cdv A outer s H E hr => ?_
  have nd := sc__law_beside.nd
  refine ⟨_, (pss_cons (ps_setLc (own := [("_law_row", 3)]) (g := gName 3) (tt := tYes) (i := 2) rfl nd rfl rfl (sw_true rfl rfl rfl (by kernel_rfl)) (pi_listK (K := K) rfl (pv 0)) (blkOk_by (by kernel_rfl)) (fun _ _ _ _ _ => (pg_name (i := 3) nd rfl (by first | exact Or.inl rfl | exact Or.inr rfl))) (fun _ _ _ _ _ => pts_nil) (fun _ _ _ _ _ => (pe_op op_cat (pv 3) (pe_op op_rep (pe_lst (pa_cons pe_int pa_nil)) (pe_callB (call_lenK (K := K) rfl) (by rfl) T.len bt_len (pa_cons (pv 1) pa_nil))))))
      (pss_one (ps_ret (pe_op op_cat (pv 2) (pe_lc (own := [("_law_row", 3)]) (g := gName 3) (tt := tYes) rfl nd (pi_listK (K := K) rfl (pv 1)) (blkOk_by (by kernel_rfl)) (fun _ _ _ _ _ => (pg_name (i := 3) nd rfl (by first | exact Or.inl rfl | exact Or.inr rfl))) (fun _ _ _ _ _ => pts_nil) (fun _ _ _ _ _ => (pe_op op_cat (pe_op op_rep (pe_lst (pa_cons pe_int pa_nil)) (pe_callB (call_lenK (K := K) rfl) (by rfl) T.len bt_len (pa_cons (pv 0) pa_nil))) (pv 3)))))))), fin2 (n := 2) rfl ?_⟩
  intro t o G H Q c k
  obtain ⟨c1, c2, c3, c4⟩ := c
  refine sg_seq (sg_asg up_true (en_lc (f := fun r => r ++ List.replicate o.length (0 : Int)) (ig_list (eg_var 0 rfl)) (by decide) (fun n r hr => ⟨_, gt_name (by decide), ((en_cat (eg_var 3 rfl) (en_rep (en_lst (er_cons eg_int er_nil) (show 1 < big by decide)).eg (eg_len (eg_var 1 rfl)) (by omega) (by omega)).eg ?_).eg).cast ?_⟩)).eg (nx_go ?_))
  · have := c3 r (mem_of_at hr)
    rw [List.length_replicate]
    unfold big
    omega
  · rw [Int.toNat_natCast]
  · refine sg_out (en_cat (eg_var 2 rfl) (en_lc (f := fun r => List.replicate t.length (0 : Int) ++ r) (ig_list (eg_var 1 rfl)) (by decide) (fun n r hr => ⟨_, gt_name (by decide), ((en_cat (en_rep (en_lst (er_cons eg_int er_nil) (show 1 < big by decide)).eg (eg_len (eg_var 0 rfl)) (by omega) (by omega)).eg (eg_var 3 rfl) ?_).eg).cast ?_⟩)).eg ?_).eg k rfl
    · have := c4 r (mem_of_at hr)
      rw [List.length_replicate]
      unfold big
      omega
    · rw [Int.toNat_natCast]
    · rw [List.length_map, List.length_map]
      unfold big
      omega
abbrev s__law_changed : Stmt := (topS 121)
abbrev N__law_changed : List Str := ["_law_table", "_law_one", "_law_other", "_law_much", "_law_found", "_law_row", "_law_near", "_law_far", "_law_at"]
theorem sc__law_changed : FnScope N__law_changed ["_law_table", "_law_one", "_law_other", "_law_much"] (defScope s__law_changed) := ⟨rfl, rfl, rfl, by decide +kernel, rfl, by decide +kernel, by decide +kernel⟩
abbrev T__law_changed (P : Program) (w : World) (K : PySem.W.Frag) (mg : Str → Option Value) (base : Heap) : Prop := Ok P w K mg base "_law_changed" 41 ["_law_table", "_law_one", "_law_other", "_law_much"] (sp4 (rL (rL rI)) rI rI rI A__law_changed (rL (rL rI)) m__law_changed)
theorem ok__law_changed (T : Tx P K mg base) (d : Df K mg "_law_changed" s__law_changed) : T__law_changed P w K mg base := by
  refine mkOk d sc__law_changed (fun _ _ _ _ _ _ us hl => match us, hl with | [_, _, _, _], _ => rfl) len4 fun f cdv A outer s H E hr => ?_
  have nd := sc__law_changed.nd
  refine ⟨_, (pss_cons (ps_setLc (own := [("_law_row", 5)]) (g := gName 5) (tt := tYes) (i := 4) rfl nd rfl rfl (sw_true rfl rfl rfl (by kernel_rfl)) (pi_listK (K := K) rfl (pv 0)) (blkOk_by (by kernel_rfl)) (fun _ _ _ _ _ => (pg_name (i := 5) nd rfl (by first | exact Or.inl rfl | exact Or.inr rfl))) (fun _ _ _ _ _ => pts_nil) (fun _ _ _ _ _ => (pe_callTy (call_listK (K := K) rfl) (by rfl) T.list bt_list (pa_cons (pv 5) pa_nil))))
      (pss_cons (ps_asg (pe_lc (own := [("_law_near", 6), ("_law_far", 7)]) (tt := tYes) rfl nd (pi_zipK (K := K) rfl (by rfl) T.zip (pa_cons (pe_ix (ix_listK (K := K) rfl) (pv 4) (pv 1) (fun _ _ => rfl)) (pa_cons (pe_ix (ix_listK (K := K) rfl) (pv 4) (pv 2) (fun _ _ => rfl)) pa_nil))) (blkOk_by (by kernel_rfl)) (fun _ _ _ _ _ => (pg_tupK (K := K) (n := 2) rfl rfl (pgs_cons (pg_name (i := 6) nd rfl (by first | exact Or.inl rfl | exact Or.inr rfl)) (pgs_cons (pg_name (i := 7) nd rfl (by first | exact Or.inl rfl | exact Or.inr rfl)) pgs_nil)))) (fun _ _ _ _ _ => pts_nil) (fun _ _ _ _ _ => (pe_op op_add (pv 6) (pe_op op_mulP (pv 3) (pv 7))))) (pg_sub (pv 4) (pv 1) set_list))
      (pss_one (ps_ret (pe_lc (own := [("_law_row", 5)]) (g := gName 5) (tt := tYes) rfl nd (pi_listK (K := K) rfl (pv 4)) (blkOk_by (by kernel_rfl)) (fun _ _ _ _ _ => (pg_name (i := 5) nd rfl (by first | exact Or.inl rfl | exact Or.inr rfl))) (fun _ _ _ _ _ => pts_nil) (fun _ _ _ _ _ => (pe_lc (own := [("_law_at", 8)]) (g := gName 8) (tt := tYes) rfl nd (pi_range1 (by rfl) T.range (pa_cons (pe_callB (call_lenK (K := K) rfl) (by rfl) T.len bt_len (pa_cons (pv 5) pa_nil)) pa_nil)) (blkOk_by (by kernel_rfl)) (fun _ _ _ _ _ => (pg_name (i := 8) nd rfl (by first | exact Or.inl rfl | exact Or.inr rfl))) (fun _ _ _ _ _ => pts_nil) (fun _ _ _ _ _ => (pe_ifExp (pt_cmpR op_eq (pv 8) (pv 2) (nomark _)) (pe_op op_sub (pe_ix (ix_listK (K := K) rfl) (pv 5) (pv 8) (fun _ _ => rfl)) (pe_op op_mulP (pv 3) (pe_ix (ix_listK (K := K) rfl) (pv 5) (pv 1) (fun _ _ => rfl)))) (pe_ix (ix_listK (K := K) rfl) (pv 5) (pv 8) (fun _ _ => rfl))))))))))), fin4 (n := 5) rfl ?_⟩
  intro t one other much G H Q c k
  obtain ⟨c1, c2, c3, c4, c5, c6⟩ := c
  have e0 : t.map (fun r => r) = t := List.map_id _
  refine sg_seq (sg_own up_true (by simp [nos]) ((en_lc (f := fun r : List Int => r) (ig_list (eg_var 0 rfl)) (by decide) (fun n r hr => ⟨_, gt_name (by decide), (en_list (eg_var 5 rfl)).eg⟩)).cast e0) (nx_go ?_))
  have m2 : ∀ x ∈ atL t other, Sm x := by
    have : atL t other ∈ t := by
      unfold atL
      rw [List.getElem?_eq_getElem c3.2]
      exact List.getElem_mem _
    exact (c5 _ this).2
  refine sg_seq (sg_set (n := 4) up_true rfl (en_lc (f := fun p : Int × Int => p.1 + much * p.2) (ig_zip (eg_ixO (xs := t) 4 rfl (eg_var 1 rfl) (atL_at c2.1 c2.2)) (eg_ixO (xs := t) 4 rfl (eg_var 2 rfl) (atL_at c3.1 c3.2))) (by decide) (fun n p hp => ⟨_, gt_pair (gt_name (by decide)) (gt_name (by decide)), eg_add (eg_var 6 rfl) (eg_mulP (eg_var 3 rfl) (eg_var 7 rfl) c4 (m2 _ (List.of_mem_zip (mem_of_at hp)).2))⟩)).eg (eg_var 1 rfl) (ixN_pos c2.1 c2.2) (nx_go ?_))
  refine sg_freeze (n := 4) up_true rfl ?_
  have le : ∀ r ∈ rowAdd t one other much, r.length = t.length := fun r hr => by
    unfold rowAdd at hr
    rcases List.mem_or_eq_of_mem_set hr with h | h
    · exact (c5 r h).1
    · rw [h, List.length_map, List.length_zip]
      have l1 : (atL t one).length = t.length := by
        have : atL t one ∈ t := by
          unfold atL
          rw [List.getElem?_eq_getElem c2.2]
          exact List.getElem_mem _
        exact (c5 _ this).1
      have l2 : (atL t other).length = t.length := by
        have : atL t other ∈ t := by
          unfold atL
          rw [List.getElem?_eq_getElem c3.2]
          exact List.getElem_mem _
        exact (c5 _ this).1
      omega
  refine sg_out (en_lc (f := fun r => colSub r one other much) (ig_list ((eg_var 4 rfl : EG _ _ _ (rowAdd t one other much)))) (by decide) (fun n r hr => ⟨_, gt_name (by decide), (en_lc (f := fun a => if a = other then at0 r a - much * at0 r one else at0 r a) (ig_range (n := (r.length : Int)) (eg_len (eg_var 5 rfl)) (by omega) (by have := le r (mem_of_at hr); omega)) (by decide) (fun m a ha => ⟨_, gt_name (by decide), ?_⟩)).eg⟩)).eg k rfl
  have hr' := mem_of_at hr
  have lr := le r hr'
  obtain ⟨rfl, hm⟩ := ints_at ha
  rw [Int.toNat_natCast] at hm
  have i1 : inR r one := ⟨c2.1, by rw [lr]; exact c2.2⟩
  have ia : inR r (m : Int) := ⟨by omega, by rw [Int.toNat_natCast]; exact hm⟩
  have s1 : Sm (at0 r one) := by
    refine c6 r hr' _ ?_
    unfold at0
    rw [List.getElem?_eq_getElem i1.2]
    exact List.getElem_mem _
  exact (eg_if (b := decide ((m : Int) = other)) (tg_val (eg_eq (eg_var 8 rfl) (eg_var 2 rfl))) (fun _ => eg_sub (eg_ix (eg_var 5 rfl) (eg_var 8 rfl) (at0_at ia.1 ia.2)) (eg_mulP (eg_var 3 rfl) (eg_ix (eg_var 5 rfl) (eg_var 1 rfl) (at0_at i1.1 i1.2)) c4 s1)) (fun _ => eg_ix (eg_var 5 rfl) (eg_var 8 rfl) (at0_at ia.1 ia.2))).cast (by simp only [decide_eq_true_eq])
end
end TW
set_option Elab.async false
set_option linter.all false
set_option maxRecDepth 100000
set_option maxHeartbeats 4000000
/-! The law's pot: a list of two numbers that changes in place; what is drawn from it is any number in range. -/
namespace TW
open PySem PySem.Spec PyProof.Rows L2
def PotAt (H : Hp) (l : Addr) : Prop := ∃ p q : Int, H l = some (.lst [.int p, .int q]) ∧ 0 ≤ p ∧ 0 ≤ q ∧ q < 2 ^ 40
/-- growth but for the pot -/
structure StepP (l : Addr) (G H G' H' : Hp) : Prop where
  g : Same G G'
  s : Same G' H'
  h : ∀ b o, b ≠ l → H b = some o → H' b = some o
  f : ∀ b, H b ≠ none → G b = none → G' b = none
  n : ∀ b, H b ≠ none → H' b ≠ none
theorem StepP.refl {l : Addr} {G H : Hp} (s : Same G H) : StepP l G H G H := ⟨Same.refl _, s, fun _ _ _ h => h, fun _ _ h => h, fun _ h => h⟩
theorem StepP.trans {l : Addr} {G H G1 H1 G2 H2 : Hp} (a : StepP l G H G1 H1) (b : StepP l G1 H1 G2 H2) : StepP l G H G2 H2 :=
  ⟨a.g.trans b.g, b.s, fun c o nc e => b.h c o nc (a.h c o nc e), fun c h1 h2 => b.f c (a.n c h1) (a.f c h1 h2), fun c h => b.n c (a.n c h)⟩
theorem Step.p {l : Addr} {G H G' H' : Hp} (p : Step G H G' H') : StepP l G H G' H' := ⟨p.g, p.s, fun b o _ e => p.h b o e, p.f, fun b h => same_some p.h h⟩
theorem PotAt.keep {l : Addr} {H H' : Hp} (h : PotAt H l) (s : Same H H') : PotAt H' l := let ⟨p, q, e, r⟩ := h; ⟨p, q, s _ _ e, r⟩
/-- what is known besides the slots -/
structure PhiOk (l : Addr) (pr : List Nat) (Φ : L2.St → Hp → Hp → Prop) : Prop where
  pot : ∀ {σ G H}, Φ σ G H → σ[0]? = some (some (.ref l)) ∧ G l = none ∧ PotAt H l
  stab : ∀ {σ G H G' H'}, Φ σ G H → StepP l G H G' H' → PotAt H' l → Φ σ G' H'
  set : ∀ {σ G H i o}, i ∉ pr → Φ σ G H → Φ (σ.set i o) G H
def Phi0 (l : Addr) (Gs Hs : Hp) : L2.St → Hp → Hp → Prop := fun σ G H => σ[0]? = some (some (.ref l)) ∧ G l = none ∧ PotAt H l ∧ StepP l Gs Hs G H
theorem pot_some {H : Hp} {l : Addr} (h : PotAt H l) : H l ≠ none := fun z => by
  obtain ⟨p, q, e, _⟩ := h
  rw [e] at z
  cases z
theorem phi0 (l : Addr) (Gs Hs : Hp) : PhiOk l [0] (Phi0 l Gs Hs) := ⟨fun h => ⟨h.1, h.2.1, h.2.2.1⟩, fun h p q => ⟨h.1, p.f l (pot_some h.2.2.1) h.2.1, q, h.2.2.2.trans p⟩, fun hi h => ⟨by
  rw [List.getElem?_set_ne (fun e => hi (by rw [e]; exact List.mem_cons_self ..))]
  exact h.1, h.2⟩⟩
abbrev Emp : Hp := fun _ => none
theorem same_emp (H : Hp) : Same Emp H := fun _ _ e => nomatch e
def NoOwn (Γ : List Sl) : Prop := (Γ.all fun s => !isOwn s) = true
theorem NoOwn.at_ {Γ : List Sl} (h : NoOwn Γ) (i : Nat) : isOwn (gt Γ i) = false := by
  induction Γ generalizing i with
  | nil => cases i <;> rfl
  | cons s r ih =>
    unfold NoOwn at h
    rw [List.all_cons, Bool.and_eq_true] at h
    cases i with
    | zero => exact (Bool.not_eq_true' _).mp h.1
    | succ i => exact ih h.2 i
theorem Ty.noown {Γ : List Sl} {σ : L2.St} {G H G' H' : Hp} (t : Ty Emp Γ σ G H) (n : NoOwn Γ) (g : Same G G') : Ty Emp Γ σ G' H' := by
  refine ⟨t.len, fun i => ?_, fun i j l hi => ?_⟩
  · have q := t.at_ i
    have no := n.at_ i
    revert q no
    cases gt Γ i with
    | no => exact fun _ _ => trivial
    | im R x => exact fun ⟨v, e, r⟩ _ => ⟨v, e, R.mono g r⟩
    | own R xs => exact fun _ no => nomatch no
  · rw [n.at_ i] at hi
    cases hi
section
variable {α β γ : Type} {l : Addr} {pr : List Nat} {Φ : L2.St → Hp → Hp → Prop} {Γ : List Sl} {R : RT α} {S : RT β} {U : RT γ} {te ta tb : TE} {x : α} {y : β} {K : PySem.W.Frag}
def ED (Φ : L2.St → Hp → Hp → Prop) (Γ : List Sl) (te : TE) (R : RT α) (Ps : α → Prop) : Prop := ∀ (σ : L2.St) (G H : Hp) (Q : VK), Same G H → Ty Emp Γ σ G H → Φ σ G H →
  (∀ x v G' H', Ps x → Same G G' → Same G' H' → Ty Emp Γ σ G' H' → Φ σ G' H' → R.rel G' v x → Q v H') → te σ H Q
theorem ed_mono {Ps Pt : α → Prop} (h : ED Φ Γ te R Ps) (i : ∀ x, Ps x → Pt x) : ED Φ Γ te R Pt := fun σ G H Q s t p k => h σ G H Q s t p fun x v G' H' hx => k x v G' H' (i x hx)
theorem ed_of (O : PhiOk l pr Φ) (h : EG Γ te R x) : ED Φ Γ te R (fun y => y = x) := fun σ G H Q s t p k =>
  h Emp σ G H Q (same_emp _) s t fun v G' H' st r => k x v G' H' rfl st.g st.s (t.step st) (O.stab p st.p ((O.pot p).2.2.keep st.h)) r
def spPot (S : RT β) (A : β → Prop) (U : RT γ) (Ps : β → γ → Prop) : Sp := fun vs H Q _ => ∃ l w y G, vs = [.ref l, w] ∧ Same G H ∧ G l = none ∧ PotAt H l ∧ S.rel G w y ∧ A y ∧
  ∀ x v G' H', Ps y x → StepP l G H G' H' → PotAt H' l → U.rel G' v x → Q v H'
theorem lenPot {A : β → Prop} {Ps : β → γ → Prop} : ∀ vs H Q E, spPot S A U Ps vs H Q E → vs.length = 2 := fun vs H Q E ⟨l, _, y, G, e, _⟩ => by rw [e]; rfl
theorem ed_draw {A : β → Prop} {Ps : β → γ → Prop} {Pb : β → Prop} {E : XK} (O : PhiOk l pr Φ) (n : NoOwn Γ) (hb : ED Φ Γ tb S Pb) (c : ∀ y, Pb y → A y) :
    ED Φ Γ (tCall (spPot S A U Ps) [] E (tCons (tVar 0) (tCons tb tNil))) U (fun x => ∃ y, Pb y ∧ Ps y x) := fun σ G H Q s t p k => by
  refine ⟨.ref l, (O.pot p).1, hb σ G H _ s t p fun y w G1 H1 hy g1 s1 t1 p1 r1 => ?_⟩
  obtain ⟨_, gl, pt⟩ := O.pot p1
  exact ⟨l, w, y, G1, rfl, s1, gl, pt, r1, c y hy, fun x v G2 H2 hx st pt2 r2 => k x v G2 H2 ⟨y, hy, hx⟩ (g1.trans st.g) st.s (t1.noown n st.g) (O.stab p1 st pt2) r2⟩
theorem ed_two {Pa : α → Prop} {Pb : β → Prop} (ha : ED Φ Γ ta R Pa) (hb : ED Φ Γ tb S Pb) {σ : L2.St} {G H : Hp} {Q : V → V → Hp → Prop} (s : Same G H) (t : Ty Emp Γ σ G H) (p : Φ σ G H)
    (k : ∀ x y v w G' H', Pa x → Pb y → Same G G' → Same G' H' → Ty Emp Γ σ G' H' → Φ σ G' H' → R.rel G' v x → S.rel G' w y → Q v w H') : ta σ H fun v H1 => tb σ H1 fun w H2 => Q v w H2 :=
  ha σ G H _ s t p fun x v G1 H1 hx g1 s1 t1 p1 r1 => hb σ G1 H1 _ s1 t1 p1 fun y w G2 H2 hy g2 s2 t2 p2 r2 => k x y v w G2 H2 hx hy (g1.trans g2) s2 t2 p2 (R.mono g2 r1) r2
theorem ed_op0 {Pa Pb : Int → Prop} {f : Int → Int → Int} (ha : ED Φ Γ ta rI Pa) (hb : ED Φ Γ tb rI Pb) : ED Φ Γ (tOp (rI0 fun i j => .int (f i j)) ta tb) rI (fun z => ∃ i j, Pa i ∧ Pb j ∧ z = f i j) := fun σ G H Q s t p k =>
  ed_two ha hb s t p fun i j v w G' H' hi hj g s' t' p' r1 r2 => ⟨i, j, r1, r2, k _ _ G' H' ⟨i, j, hi, hj, rfl⟩ g s' t' p' rfl⟩
theorem ed_op {C : Int → Int → Prop} {Pa Pb : Int → Prop} {f : Int → Int → Int} (ha : ED Φ Γ ta rI Pa) (hb : ED Φ Γ tb rI Pb) (hc : ∀ i j, Pa i → Pb j → C i j) :
    ED Φ Γ (tOp (L2.rI C fun i j => .int (f i j)) ta tb) rI (fun z => ∃ i j, Pa i ∧ Pb j ∧ z = f i j) := fun σ G H Q s t p k =>
  ed_two ha hb s t p fun i j v w G' H' hi hj g s' t' p' r1 r2 => ⟨i, j, r1, r2, hc i j hi hj, k _ _ G' H' ⟨i, j, hi, hj, rfl⟩ g s' t' p' rfl⟩
theorem ed_gt {Pa Pb : Int → Prop} (ha : ED Φ Γ ta rI Pa) (hb : ED Φ Γ tb rI Pb) : ED Φ Γ (tOp (rI0 fun i j => .bl (decide (j < i))) ta tb) rB (fun z => ∃ i j, Pa i ∧ Pb j ∧ z = decide (j < i)) := fun σ G H Q s t p k =>
  ed_two ha hb s t p fun i j v w G' H' hi hj g s' t' p' r1 r2 => ⟨i, j, r1, r2, k _ _ G' H' ⟨i, j, hi, hj, rfl⟩ g s' t' p' rfl⟩
theorem ed_ix {xs : List α} {Pb : Int → Prop} {Ps : α → Prop} (O : PhiOk l pr Φ) (ha : EG Γ ta (rL R) xs) (hb : ED Φ Γ tb rI Pb) (hx : ∀ i, Pb i → ∃ x, L2.atI xs i = some x ∧ Ps x) : ED Φ Γ (tOp (rIxL K) ta tb) R Ps := fun σ G H Q s t p k =>
  ed_two (ed_of O ha) hb s t p fun ys i v w G' H' hy hi g s' t' p' r1 r2 => by
    subst hy
    obtain ⟨x, e, px⟩ := hx i hi
    obtain ⟨a, vs, ev, ga, al, _⟩ := r1
    obtain ⟨u, hu, ru⟩ := al.atI e
    exact ⟨a, vs, i, u, ev, r2, sq_of (s' _ _ ga), hu, k x u G' H' px g s' t' p' ru⟩
theorem ed_int {Pa : Int → Prop} (ha : ED Φ Γ ta rI Pa) : ED Φ Γ (tCB (fun xs H Q => (∃ i, xs = [V.int i] ∧ Q (.int i) H) ∨ ∃ k, xs = [V.bl k] ∧ Q (.int (if k then 1 else 0)) H) (tCons ta tNil)) rI Pa := fun σ G H Q s t p k =>
  ha σ G H _ s t p fun i v G' H' hi g s' t' p' r => .inl ⟨i, by rw [show v = V.int i from r], k i _ G' H' hi g s' t' p' rfl⟩
theorem ed_if {Pt : Bool → Prop} {P1 P2 : α → Prop} (h : ED Φ Γ te rB Pt) (h1 : Pt true → ED Φ Γ ta R P1) (h2 : Pt false → ED Φ Γ tb R P2) : ED Φ Γ (tIf (tTest te) ta tb) R (fun x => P1 x ∨ P2 x) := fun σ G H Q s t p k =>
  h σ G H _ s t p fun b v G1 H1 hb g1 s1 t1 p1 r1 => ⟨b, r1, by
    cases b with
    | true => exact iteT (h1 hb σ G1 H1 Q s1 t1 p1 fun x v G2 H2 hx g2 s2 t2 p2 r2 => k x v G2 H2 (.inl hx) (g1.trans g2) s2 t2 p2 r2)
    | false => exact iteF (h2 hb σ G1 H1 Q s1 t1 p1 fun x v G2 H2 hx g2 s2 t2 p2 r2 => k x v G2 H2 (.inr hx) (g1.trans g2) s2 t2 p2 r2)⟩
/-! statements -/
def SX (Φ : L2.St → Hp → Hp → Prop) (Γ : List Sl) (σ : L2.St) (H : Hp) : Prop := ∃ G, Same G H ∧ Ty Emp Γ σ G H ∧ Φ σ G H
def SgX (Φ : L2.St → Hp → Hp → Prop) (Γ : List Sl) (t : TS) (D : Ends) : Prop := ∀ σ H, SX Φ Γ σ H → t D σ H
def NxX (Φ : L2.St → Hp → Hp → Prop) (Γ : List Sl) (D : Ends) : Prop := ∀ σ H, SX Φ Γ σ H → D.nx σ H
variable {t u : TS} {D D' : Ends} {m n : Nat}
theorem x_seq (h : SgX Φ Γ t { D with nx := u D }) : SgX Φ Γ (tSeq t u) D := h
theorem x_go (h : SgX Φ Γ u D') : NxX Φ Γ { D with nx := u D' } := h
theorem x_next (h : NxX Φ Γ D) : SgX Φ Γ tNext D := h
theorem x_weak {Γ' : List Sl} (w : Wk Γ Γ') (h : SgX Φ Γ' t D) : SgX Φ Γ t D := fun σ H ⟨G, s, ty, p⟩ => h σ H ⟨G, s, ty.weak w, p⟩
theorem x_asg {Ps : α → Prop} (O : PhiOk l pr Φ) (hn : n ∉ pr) (h : ED Φ Γ te R Ps) (k : ∀ x, Ps x → NxX Φ (st Γ n (.im R x)) D) : SgX Φ Γ (tAsg te (gName n)) D := fun σ H ⟨G, s, ty, p⟩ =>
  h σ G H _ s ty p fun x v G' H' hx g s' t' p' r => k x hx _ _ ⟨G', s', t'.set_im r, O.set hn p'⟩
theorem x_par {Pa : α → Prop} {Pb : β → Prop} (O : PhiOk l pr Φ) (hm : m ∉ pr) (hn : n ∉ pr) (h1 : ED Φ Γ ta R Pa) (h2 : ED Φ Γ tb S Pb) (k : ∀ x y, Pa x → Pb y → NxX Φ (st (st Γ m (.im R x)) n (.im S y)) D) :
    SgX Φ Γ (tPar m n (tCons ta (tCons tb tNil))) D := fun σ H ⟨G, s, ty, p⟩ =>
  ed_two h1 h2 s ty p fun x y v w G' H' hx hy g s' t' p' r1 r2 => ⟨v, w, rfl, k x y hx hy _ _ ⟨G', s', (t'.set_im r1).set_im r2, O.set hn (O.set hm p')⟩⟩
theorem x_tup {Pa : α → Prop} {Pb : β → Prop} (O : PhiOk l pr Φ) (hm : m ∉ pr) (hn : n ∉ pr) (h1 : ED Φ Γ ta R Pa) (h2 : ED Φ Γ tb S Pb) (k : ∀ x y, Pa x → Pb y → NxX Φ (st (st Γ m (.im R x)) n (.im S y)) D) :
    SgX Φ Γ (tAsg (tTup (tCons ta (tCons tb tNil))) (gTup K 2 (gCons (gName m) (gCons (gName n) gNil)))) D := fun σ H ⟨G, s, ty, p⟩ =>
  ed_two h1 h2 s ty p fun x y v w G' H' hx hy g s' t' p' r1 r2 => by
    refine ⟨(by decide : 2 ≤ sizeLine), fun b hb => ?_⟩
    have st1 : Step G' H' G' (upd H' b (.tup [v, w])) := Step.newO s' hb
    refine ⟨b, [v, w], rfl, st_of upd_same, rfl, v, [w], rfl, w, [], rfl, rfl, k x y hx hy _ _ ⟨G', st1.s, ((t'.step st1).set_im r1).set_im r2, O.set hn (O.set hm (O.stab p' st1.p ((O.pot p').2.2.keep st1.h)))⟩⟩
theorem x_if {tt : TT} {b : Bool} (O : PhiOk l pr Φ) (h : ET Γ tt b) (h1 : b = true → SgX Φ Γ t D) (h2 : b = false → SgX Φ Γ u D) : SgX Φ Γ (tIfS tt t u) D := fun σ H ⟨G, s, ty, p⟩ =>
  h Emp σ G H _ (same_emp _) s ty fun G' H' st => by
    have sx : SX Φ Γ σ H' := ⟨G', st.s, ty.step st, O.stab p st.p ((O.pot p).2.2.keep st.h)⟩
    cases b with
    | true => exact iteT (h1 rfl σ H' sx)
    | false => exact iteF (h2 rfl σ H' sx)
theorem x_ret {Ps : γ → Prop} {Q : VK} (h : ED Φ Γ te U Ps) (k : ∀ x σ v G H, Ps x → Φ σ G H → U.rel G v x → Q v H) (e : D.rt = Q) : SgX Φ Γ (tRet te) D := fun σ H ⟨G, s, ty, p⟩ =>
  h σ G H _ s ty p fun x v G' H' hx g s' t' p' r => by
    rw [e]
    exact k x σ v G' H' hx p' r
theorem x_ifD {Pt : Bool → Prop} (h : ED Φ Γ te rB Pt) (h1 : Pt true → SgX Φ Γ t D) (h2 : Pt false → SgX Φ Γ u D) : SgX Φ Γ (tIfS (tTest te) t u) D := fun σ H ⟨G, s, ty, p⟩ =>
  h σ G H _ s ty p fun b v G' H' hb g s' t' p' r => ⟨b, r, by
    cases b with
    | true => exact iteT (h1 hb σ H' ⟨G', s', t', p'⟩)
    | false => exact iteF (h2 hb σ H' ⟨G', s', t', p'⟩)⟩
theorem phi_and (O : PhiOk l pr Φ) (G1 : Hp) : PhiOk l pr fun σ G H => Φ σ G H ∧ Same G1 G := ⟨fun h => O.pot h.1, fun h p q => ⟨O.stab h.1 p q, h.2.trans p.g⟩, fun hi h => ⟨O.set hi h.1, h.2⟩⟩
/-- what is walked, drawn -/
def IX (Φ : L2.St → Hp → Hp → Prop) (Γ : List Sl) (wi : TI) (R : RT α) (Px : List α → Prop) : Prop := ∀ (σ : L2.St) (G H : Hp) (Rr : It → Hp → Prop), Same G H → Ty Emp Γ σ G H → Φ σ G H →
  (∀ xs J G' H', Px xs → Same G G' → Same G' H' → Ty Emp Γ σ G' H' → Φ σ G' H' → Walk J xs.length (Same G') (Yi R xs G') → xs.length < big → Rr J H') → wi σ H Rr
theorem ix_of {wi : TI} {xs : List α} (O : PhiOk l pr Φ) (h : IG Γ wi R xs) : IX Φ Γ wi R (fun ys => ys = xs) := fun σ G H Rr s t p k =>
  h Emp σ G H Rr (same_emp _) s t fun J G' H' st w z => k xs J G' H' rfl st.g st.s (t.step st) (O.stab p st.p ((O.pot p).2.2.keep st.h)) w z
theorem ix_list' {Px : List α → Prop} (h : ED Φ Γ te (rL R) Px) : IX Φ Γ (iList K te) R Px := fun σ G H Rr s t p k => h σ G H _ s t p fun xs v G1 H1 hx g1 s1 t1 p1 r => by
  obtain ⟨a, vs, ev, hv, q, z⟩ := r
  refine ⟨a, ev, ⟨vs, sq_of (s1 _ _ hv)⟩, k xs _ G1 H1 hx g1 s1 t1 p1 ?_ z⟩
  rw [← q.length]
  refine (walk_list (K := K) (a := a) (xs := vs)).mono (fun H hs => sq_of (hs _ _ hv)) fun i H w H' hi hs y => ?_
  obtain ⟨e, y⟩ := y
  obtain ⟨b, h1, h2⟩ := q.get' y
  subst e
  exact ⟨b, h1, fun G2 s1 s2 => ⟨G2, Step.refl s2, R.mono s1 h2⟩⟩
theorem ix_range' {Ps : Int → Prop} (h : ED Φ Γ te rI Ps) (hb : ∀ n, Ps n → 0 ≤ n ∧ n < 100000) : IX Φ Γ (iRng1 (tCons te tNil)) rI (fun xs => ∃ n, Ps n ∧ xs = upto n.toNat) := fun σ G H Rr s t p k => h σ G H _ s t p fun n v G1 H1 hx g1 s1 t1 p1 r => by
  obtain ⟨h0, h1⟩ := hb n hx
  refine ⟨n, by rw [show v = .int n from r], by omega, by omega, k (upto n.toNat) _ G1 H1 ⟨n, hx, rfl⟩ g1 s1 t1 p1 ?_ (by rw [upto_len]; show n.toNat < 100000; omega)⟩
  rw [upto_len]
  refine (walk_range (lo := 0) (n := n.toNat)).mono (fun H hs => trivial) fun i H w H' hi hs y => ?_
  obtain ⟨e1, y⟩ := y
  subst e1
  refine ⟨(i : Int), ?_, fun G2 s1 s2 => ⟨G2, Step.refl s2, ?_⟩⟩
  · unfold upto
    rw [List.getElem?_map, List.getElem?_range hi]
    rfl
  · exact y.trans (congrArg V.int (Int.zero_add _))
/-- a for loop; what is known may change from turn to turn -/
theorem x_for {wi : TI} {Px : List α → Prop} {B : Type} (Φ : B → L2.St → Hp → Hp → Prop) (Γi : B → List Sl) (O : ∀ b, PhiOk l pr (Φ b)) (hm : m ∉ pr) (b0 : B) (w0 : Wk Γ (Γi b0)) (hi : IX (Φ b0) Γ wi R Px)
    (hb : ∀ xs, Px xs → ∃ I : Nat → B → Prop, I 0 b0 ∧
      (∀ (n : Nat) (a : α) (b : B) (Ψ : B → L2.St → Hp → Hp → Prop), (∀ b, PhiOk l pr (Ψ b)) → (∀ b σ G H, Ψ b σ G H → Φ b σ G H) → (∀ b b' σ G H H', Ψ b σ G H → Φ b' σ G H' → Ψ b' σ G H') → I n b → xs[n]? = some a →
        SgX (Ψ b) (st (Γi b) m (.im R a)) t { D with nx := fun σ H => ∃ b', I (n + 1) b' ∧ SX (Ψ b') (Γi b') σ H, ct := fun σ H => ∃ b', I (n + 1) b' ∧ SX (Ψ b') (Γi b') σ H, bk := D.nx }) ∧
      ∀ b, I xs.length b → NxX (Φ b) (Γi b) D) : SgX (Φ b0) Γ (tFor wi (gName m) t) D := fun σ H ⟨G, s, ty, p⟩ => by
  refine hi σ G H _ s ty p fun xs J G1 H1 hx g1 s1 t1 p1 w _ => ?_
  obtain ⟨I, i0, body, fin⟩ := hb xs hx
  have O' : ∀ b, PhiOk l pr fun σ G H => Φ b σ G H ∧ Same G1 G := fun b => phi_and (O b) G1
  refine for_it w (Pv := fun n σ' H' => ∃ b, I n b ∧ SX (fun σ G H => Φ b σ G H ∧ Same G1 G) (Γi b) σ' H') ⟨b0, i0, G1, s1, t1.weak w0, p1, Same.refl _⟩ ?_ ?_ ?_
  · rintro n σ' H' _ ⟨b, _, G2, s2, _, _, g2⟩
    exact g2.trans s2
  · rintro n v σ' H' H'' hn ⟨b, i2, G2, s2, ty2, p2, g2⟩ ⟨y, hb1, hb2⟩
    obtain ⟨G3, st3, r3⟩ := hb2 G2 g2 s2
    refine body n y b _ O' (fun b σ G H h => h.1) (fun b b' σ G H H' h h' => ⟨h', h.2⟩) i2 hb1 _ _ ⟨G3, st3.s, (ty2.step st3).set_im r3, (O' b).set hm ((O' b).stab ⟨p2, g2⟩ st3.p (((O b).pot p2).2.2.keep st3.h))⟩
  · rintro σ' H' ⟨b, i2, G2, s2, ty2, p2, _⟩
    exact fin b i2 σ' H' ⟨G2, s2, ty2, p2⟩
theorem x_nx {B : Type} {I : B → Prop} {Ψ : B → L2.St → Hp → Hp → Prop} {Γi : B → List Sl} (b : B) (h : D.nx = fun σ H => ∃ b', I b' ∧ SX (Ψ b') (Γi b') σ H) (w : Wk Γ (Γi b)) (i : I b) : NxX (Ψ b) Γ D := fun σ H ⟨G, s, ty, p⟩ => by
  rw [h]
  exact ⟨b, i, G, s, ty.weak w, p⟩
theorem x_nxC {B : Type} {I : B → Prop} {Ψ : B → L2.St → Hp → Hp → Prop} {Γi : B → List Sl} {b0 : B} (b : B) (cv : ∀ σ G H, Ψ b0 σ G H → Ψ b σ G H) (h : D.nx = fun σ H => ∃ b', I b' ∧ SX (Ψ b') (Γi b') σ H) (w : Wk Γ (Γi b)) (i : I b) : NxX (Ψ b0) Γ D := fun σ H ⟨G, s, ty, p⟩ => by
  rw [h]
  exact ⟨b, i, G, s, ty.weak w, cv _ _ _ p⟩
/-! the pot's own cells -/
theorem ed_pot0 (O : PhiOk l pr Φ) : ED Φ Γ (tOp (rIxL K) (tVar 0) (tC (.int 0))) rI (fun x => 0 ≤ x) := fun σ G H Q s t p k => by
  obtain ⟨e, gl, a, b, h, h0, h1, h2⟩ := O.pot p
  exact ⟨.ref l, e, l, [.int a, .int b], 0, .int a, rfl, rfl, sq_of h, rfl, k a _ G H h0 (Same.refl _) s t p rfl⟩
theorem ed_pot1 (O : PhiOk l pr Φ) : ED Φ Γ (tOp (rIxL K) (tVar 0) (tC (.int 1))) rI (fun x => 0 ≤ x ∧ x < 2 ^ 40) := fun σ G H Q s t p k => by
  obtain ⟨e, gl, a, b, h, h0, h1, h2⟩ := O.pot p
  exact ⟨.ref l, e, l, [.int a, .int b], 1, .int b, rfl, rfl, sq_of h, rfl, k b _ G H ⟨h1, h2⟩ (Same.refl _) s t p rfl⟩
theorem pot_upd {H G : Hp} {σ : L2.St} {xs : List V} (O : PhiOk l pr Φ) (s : Same G H) (p : Φ σ G H) (h : PotAt (upd H l (.lst xs)) l) : Φ σ G (upd H l (.lst xs)) ∧ Same G (upd H l (.lst xs)) := by
  obtain ⟨e, gl, pt⟩ := O.pot p
  have s2 : Same G (upd H l (.lst xs)) := same_out s gl
  refine ⟨O.stab p ⟨Same.refl _, s2, fun b o nb eb => by rw [upd_ne nb]; exact eb, fun _ _ h => h, fun b hb => ?_⟩ h, s2⟩
  by_cases hl : b = l
  · rw [hl, upd_same]
    exact fun z => nomatch z
  · rw [upd_ne hl]
    exact hb
theorem x_set1 {Ps : Int → Prop} (O : PhiOk l pr Φ) (no : NoOwn Γ) (h : ED Φ Γ te rI Ps) (hx : ∀ x, Ps x → 0 ≤ x ∧ x < 2 ^ 40) (k : NxX Φ Γ D) : SgX Φ Γ (tAsg te (gSub (tVar 0) (tC (.int 1)) rSetL)) D := fun σ H ⟨G, s, ty, p⟩ =>
  h σ G H _ s ty p fun x v G' H' hx' g s' t' p' r => by
    obtain rfl : v = .int x := r
    obtain ⟨e, gl, a, b, hl, h0, h1, h2⟩ := O.pot p'
    refine ⟨.ref l, e, l, [.int a, .int b], 1, 1, rfl, rfl, hl, rfl, ?_⟩
    obtain ⟨p2, s2⟩ := pot_upd (xs := [.int a, .int x]) O s' p' ⟨a, x, upd_same, h0, (hx x hx').1, (hx x hx').2⟩
    exact k σ _ ⟨G', s2, t'.noown no (Same.refl _), p2⟩
/-- pot[0], digit = divmod(pot[0], many) -/
theorem x_divmod {Pb : Int → Prop} (O : PhiOk l pr Φ) (no : NoOwn Γ) (hn : n ∉ pr) (hb : ED Φ Γ tb rI Pb) (hc : ∀ j, Pb j → 0 < j ∧ j < 1000) (k : ∀ j d, Pb j → 0 ≤ d → d < j → NxX Φ (st Γ n (.im rI d)) D) :
    SgX Φ Γ (tAsg (tCB (fun xs H Q => ∃ i j, xs = [V.int i, V.int j] ∧ CDiv i j ∧ ∀ p, H p = none → Q (.ref p) (upd H p (.tup [.int (i / j), .int (i % j)]))) (tCons (tOp (rIxL K) (tVar 0) (tC (.int 0))) (tCons tb tNil))) (gTup K 2 (gCons (gSub (tVar 0) (tC (.int 0)) rSetL) (gCons (gName n) gNil)))) D := fun σ H ⟨G, s, ty, p⟩ =>
  ed_two (ed_pot0 O) hb s ty p fun i j v w G' H' hi hj g s' t' p' r1 r2 => by
    obtain rfl : v = .int i := r1
    obtain rfl : w = .int j := r2
    obtain ⟨j0, j1⟩ := hc j hj
    refine ⟨i, j, rfl, ⟨j0, by omega⟩, fun b hbn => ?_⟩
    have st1 : Step G' H' G' (upd H' b (.tup [.int (i / j), .int (i % j)])) := Step.newO s' hbn
    have p1 := O.stab p' st1.p ((O.pot p').2.2.keep st1.h)
    obtain ⟨e, gl, a, c, hl, h0, h1, h2⟩ := O.pot p1
    refine ⟨b, [.int (i / j), .int (i % j)], rfl, st_of upd_same, rfl, .int (i / j), [.int (i % j)], rfl, .ref l, e, l, [.int a, .int c], 0, 0, rfl, rfl, hl, rfl, ?_⟩
    obtain ⟨p2, s2⟩ := pot_upd (xs := [.int (i / j), .int c]) O st1.s p1 ⟨i / j, c, upd_same, Int.ediv_nonneg hi (by omega), h1, h2⟩
    exact ⟨.int (i % j), [], rfl, rfl, k j (i % j) hj (Int.emod_nonneg _ (by omega)) (Int.emod_lt_of_pos _ j0) _ _ ⟨G', s2, ((t'.step st1).noown no (Same.refl _)).set_im rfl, O.set hn p2⟩⟩
/-- a def that gets the pot and one thing more -/
def RetP (l : Addr) (U : RT γ) (Ps : γ → Prop) (Gs Hs : Hp) (Q : VK) : Prop := ∀ x v G' H', Ps x → StepP l Gs Hs G' H' → PotAt H' l → U.rel G' v x → Q v H'
theorem finPot {N : List Str} {E : XK} {A : β → Prop} {Ps : β → γ → Prop} (hn : N.length = n + 2)
    (h : ∀ (l : Addr) (y : β) (Gs Hs : Hp) (Q : VK), A y → RetP l U (Ps y) Gs Hs Q → SgX (Phi0 l Gs Hs) (.no :: .im S y :: nos n) t { nx := fun _ H' => Q .non H', rt := Q }) :
    ∀ (vs : List V) (H' : Hp) (Q : VK), spPot S A U Ps vs H' Q E → t { nx := fun _ H' => Q .non H', rt := Q } (L2.start N vs) H' := fun vs H Q ⟨l, w, y, G, e, s, gl, pt, r, c, k⟩ => by
  subst e
  have ty : Ty H (.im (rRef l) () :: .im S y :: nos n) (L2.start N [.ref l, w]) G H := Ini.ty (.cons rfl (.cons r (.nil n))) (by rw [List.length_cons, List.length_cons, nos_len, hn])
  have ty2 : Ty Emp (.no :: .im S y :: nos n) (L2.start N [.ref l, w]) G H := by
    have t1 := ty.weak (Γ' := .no :: .im S y :: nos n) ⟨.inl rfl, .inr rfl, Wk.refl _⟩
    refine ⟨t1.len, fun i => ?_, fun i j l' hi => ?_⟩
    · match i with
      | 0 => exact trivial
      | 1 => exact t1.at_ 1
      | i + 2 =>
        show SlOk _ _ _ _ (gt (nos n) i)
        rw [gt_nos]
        trivial
    · exfalso
      match i with
      | 0 => cases hi
      | 1 => cases hi
      | i + 2 =>
        have : isOwn (gt (nos n) i) = true := hi
        rw [gt_nos] at this
        cases this
  exact h l y G H Q c k _ _ ⟨G, s, ty2, rfl, gl, pt, StepP.refl s⟩
theorem x_out {Ps Pt : γ → Prop} {Gs Hs : Hp} {Q : VK} (h : ED (Phi0 l Gs Hs) Γ te U Ps) (i : ∀ x, Ps x → Pt x) (k : RetP l U Pt Gs Hs Q) (e : D.rt = Q) : SgX (Phi0 l Gs Hs) Γ (tRet te) D :=
  x_ret h (fun x σ v G H hx p r => k x v G H (i x hx) p.2.2.2 p.2.2.1 r) e
end
end TW
set_option Elab.async false
set_option linter.all false
set_option maxRecDepth 100000
set_option maxHeartbeats 4000000
namespace TW
open PySem PySem.Spec PyProof.Rows L2
abbrev A__law_draw (many : Int) : Prop := 0 < many ∧ many < 1000
abbrev P__law_draw (many d : Int) : Prop := 0 ≤ d ∧ d < many
theorem sm40 {i : Int} (h0 : 0 ≤ i) (h : i < 2 ^ 40) : Sm i := sm_small (by omega)
/-- the script: a list of ints, tracked or written -/
def rS (K : PySem.W.Frag) : RT (List Int) := ⟨fun G v xs => ∃ a, v = .ref a ∧ SqL K G a (xs.map V.int) ∧ xs.length < 1000, fun s ⟨a, e, h, z⟩ => ⟨a, e, h.ext s, z⟩⟩
section
variable {Γ : List Sl} {ta tb te : TE} {K : PySem.W.Frag} {xs : List Int} {i x : Int}
theorem eg_lenS (ha : EG Γ ta (rS K) xs) : EG Γ (tCB (fun xs H Q => ∃ p ys, xs = [V.ref p] ∧ (SqL K H p ys ∨ SqT K H p ys) ∧ Q (.int ys.length) H) (tCons ta tNil)) rI (xs.length : Int) := fun H0 σ G H Q h0 s t k =>
  ha H0 σ G H _ h0 s t fun v G1 H1 p ⟨a, e, h, _⟩ => ⟨a, xs.map V.int, by rw [e], .inl (h.ext p.s), k _ G1 H1 p (by rw [List.length_map]; rfl)⟩
theorem eg_ixS (ha : EG Γ ta (rS K) xs) (hb : EG Γ tb rI i) (e : L2.atI xs i = some x) : EG Γ (tOp (rIxL K) ta tb) rI x := fun H0 σ G H Q h0 s t k =>
  eg_two ha hb h0 s t fun v w G1 H1 p ⟨a, ev, h, _⟩ r2 => by
    refine ⟨a, xs.map V.int, i, .int x, ev, r2, h.ext p.s, ?_, k _ G1 H1 p rfl⟩
    unfold L2.atI at e ⊢
    rw [List.length_map]
    cases hj : ixN xs.length i with
    | none => rw [hj] at e; cases e
    | some j =>
      rw [hj] at e
      have e' : xs[j]? = some x := e
      show (xs.map V.int)[j]? = _
      rw [List.getElem?_map, e']
      rfl
theorem all2_map (G : Hp) : ∀ xs : List Int, All2 (rI.rel G) (xs.map V.int) xs
  | [] => .nil
  | x :: xs => .cons rfl (all2_map G xs)
theorem en_sliceS {tl th : TO} {lo hi : Option Int} (h : EG Γ te (rS K) xs) (hl : PG' Γ tl lo) (hh : PG' Γ th hi) : EN Γ (tSl (rSlL K) te tl th) rI (cutL xs lo hi) := fun H0 σ G H Q h0 s t k =>
  h H0 σ G H _ h0 s t fun v G1 H1 p ⟨a, ev, hs, z⟩ => hl H0 σ G1 H1 _ (h0.trans p.h) p.s (t.step p) fun G2 H2 p2 => hh H0 σ G2 H2 _ (h0.trans (p.trans p2).h) p2.s (t.step (p.trans p2)) fun G3 H3 p3 => by
    refine ⟨a, xs.map V.int, ev, ((hs.ext p.s).ext p2.h).ext p3.h, fun l hl => enk k l (cutV (xs.map V.int) lo hi) G3 H3 ((p.trans p2).trans p3) hl ?_ (Nat.lt_of_le_of_lt (cutL_len xs lo hi) (len_small z))⟩
    unfold cutV cutL
    rw [List.length_map]
    exact ((all2_map G3 xs).drop _).take _
theorem eg_abs (ha : EG Γ ta rI i) : EG Γ (tCB (fun xs H Q => ∃ i, xs = [V.int i] ∧ Q (.int (if i < 0 then -i else i)) H) (tCons ta tNil)) rI (if i < 0 then -i else i) := fun H0 σ G H Q h0 s t k =>
  ha H0 σ G H _ h0 s t fun v G1 H1 p r => ⟨i, by rw [show v = V.int i from r], k _ G1 H1 p rfl⟩
theorem eg_max {j : Int} (ha : EG Γ ta rI i) (hb : EG Γ tb rI j) : EG Γ (tCB (fun xs H Q => ∃ i j, xs = [V.int i, V.int j] ∧ Q (.int (if j > i then j else i)) H) (tCons ta (tCons tb tNil))) rI (if j > i then j else i) := fun H0 σ G H Q h0 s t k =>
  eg_two ha hb h0 s t fun v w G1 H1 p r1 r2 => ⟨i, j, by rw [show v = V.int i from r1, show w = V.int j from r2], k _ G1 H1 p rfl⟩
theorem eg_pow {j : Int} (ha : EG Γ ta rI i) (hb : EG Γ tb rI j) (c : CPow i j) : EG Γ (tOp (L2.rI CPow fun i j => .int (i ^ j.toNat)) ta tb) rI (i ^ j.toNat) := eg_opI ha hb c fun _ => rfl
theorem sg_retN {α : Type} {R : RT α} {G0 H0 : Hp} {P : Hp → Prop} {D : Ends} {ys : List α} {Q : VK} (h : EN Γ te R ys) (k : RetsN R ys G0 H0 Q) (e : D.rt = Q) : Sg G0 H0 P Γ (tRet te) D := fun σ H ⟨G, p, q, ty⟩ =>
  h H0 σ G H _ p.h p.s ty fun l vs G1 H1 p1 hl hg hh a z => by
    rw [e]
    exact k l vs G1 H1 (p.trans p1) (p.h.free hl) hg hh a z
end
def cellOf (script : List Int) : Int := match script with
  | [] => 613
  | x :: _ => if x < 0 then -x else x
def m__law_pot (script : List Int) (k : Int) : List Int := [if cellOf script - 10 ^ 18 > 0 then cellOf script - 10 ^ 18 else 0, (cellOf script % 2147483549 + 17299) * 125 % 2147483477 + 1]
abbrev A__law_pot (script : List Int) (k : Int) : Prop := k = 0
section
variable {P : Program} {w : World} {K : PySem.W.Frag} {mg : Str → Option Value} {base : Heap}
abbrev s__law_draw : Stmt := (topS 116)
abbrev N__law_draw : List Str := ["_law_pot_here", "_law_many", "_law_digit"]
theorem sc__law_draw : FnScope N__law_draw ["_law_pot_here", "_law_many"] (defScope s__law_draw) := ⟨rfl, rfl, rfl, by decide +kernel, rfl, by decide +kernel, by decide +kernel⟩
abbrev T__law_draw (P : Program) (w : World) (K : PySem.W.Frag) (mg : Str → Option Value) (base : Heap) : Prop := Ok P w K mg base "_law_draw" 41 ["_law_pot_here", "_law_many"] (spPot rI A__law_draw rI P__law_draw)
theorem ok__law_draw (T : Tx P K mg base) (d : Df K mg "_law_draw" s__law_draw) : T__law_draw P w K mg base := by
  refine mkOk d sc__law_draw (fun _ _ _ _ _ _ us hl => match us, hl with | [_, _], _ => rfl) lenPot fun f cdv A outer s H E hr => ?_
  have nd := sc__law_draw.nd
  have hS : SeerX (cxOf CX0 P w K mg base N__law_draw "_law_draw" (defScope s__law_draw) f cdv A outer s H E).nox := seer_here T rfl rfl hr
  refine ⟨_, (pss_cons (ps_if (pt_cmpR op_gt (pe_ix (ix_listK (K := K) rfl) (pv 0) pe_int (fun _ _ => rfl)) pe_int (nomark _)) (pss_cons (ps_asg (pe_callB call_divmod (by rfl) T.divmod bt_divmod (pa_cons (pe_ix (ix_listK (K := K) rfl) (pv 0) pe_int (fun _ _ => rfl)) (pa_cons (pv 1) pa_nil))) (pg_tupK (K := K) (n := 2) rfl rfl (pgs_cons (pg_sub (pv 0) pe_int set_list) (pgs_cons (pg_name (i := 2) nd rfl (Or.inl rfl)) pgs_nil))))
      (pss_one (ps_ret (pv 2)))) pss_nil)
      (pss_cons (ps_asg (pe_op op_mod (pe_callTy call_int1 (by rfl) T.int bt_int (pa_cons (pe_op op_add (pe_op op_mulP (pe_ix (ix_listK (K := K) rfl) (pv 0) pe_int (fun _ _ => rfl)) pe_int) pe_int) pa_nil)) pe_int) (pg_sub (pv 0) pe_int set_list))
      (pss_one (ps_ret (pe_op op_mod (pe_callTy call_int1 (by rfl) T.int bt_int (pa_cons (pe_op (op_fdivP hS) (pe_op op_mod (pe_callTy call_int1 (by rfl) T.int bt_int (pa_cons (pe_op op_mulP (pe_ix (ix_listK (K := K) rfl) (pv 0) pe_int (fun _ _ => rfl)) (pe_ix (ix_listK (K := K) rfl) (pv 0) pe_int (fun _ _ => rfl))) pa_nil)) pe_int) pe_int) pa_nil)) (pv 1)))))), finPot (n := 1) rfl ?_⟩
  intro l many Gs Hs Q c k
  have O := phi0 l Gs Hs
  refine x_seq (x_ifD (ed_gt (ed_pot0 O) (ed_of O eg_int)) (fun _ => ?_) (fun _ => x_next (x_go ?_)))
  · refine x_seq (x_divmod O rfl (by decide) (ed_of O (eg_var 1 rfl)) (fun j hj => by subst hj; exact c) fun j d hj d0 d1 => x_go ?_)
    subst hj
    exact x_out (ed_of O (eg_var 2 rfl)) (fun x hx => by subst hx; exact ⟨d0, d1⟩) k rfl
  · refine x_seq (x_set1 O rfl (ed_op (C := fun _ j => 0 < j) (ed_int (ed_op0 (ed_op (C := fun i j => Sm i ∧ Sm j) (ed_pot1 O) (ed_of O eg_int) ?_) (ed_of O eg_int))) (ed_of O eg_int) ?_) ?_ (x_go ?_))
    · rintro i j ⟨h0, h1⟩ rfl
      exact ⟨sm40 h0 h1, sm_small (by decide)⟩
    · rintro i j _ rfl
      decide
    · rintro x ⟨i, j, _, rfl, rfl⟩
      constructor
      · exact Int.emod_nonneg _ (by decide)
      · have := Int.emod_lt_of_pos i (show (0 : Int) < 2147483587 by decide)
        omega
    · refine x_out (ed_op (C := fun _ j => 0 < j) (ed_int (ed_op (C := fun _ j => j ≠ 0) (ed_op (C := fun _ j => 0 < j) (ed_int (ed_op (C := fun i j => Sm i ∧ Sm j) (ed_pot1 O) (ed_pot1 O) ?_)) (ed_of O eg_int) ?_) (ed_of O eg_int) ?_)) (ed_of O (eg_var 1 rfl)) ?_) ?_ k rfl
      · rintro i j ⟨h0, h1⟩ ⟨h2, h3⟩
        exact ⟨sm40 h0 h1, sm40 h2 h3⟩
      · rintro i j _ rfl
        decide
      · rintro i j _ rfl
        decide
      · rintro i j _ rfl
        exact c.1
      · rintro x ⟨i, j, _, rfl, rfl⟩
        exact ⟨Int.emod_nonneg _ (by have := c.1; omega), Int.emod_lt_of_pos _ c.1⟩
abbrev A__law_pick (xs : List Int) : Prop := xs ≠ [] ∧ xs.length < 1000
abbrev P__law_pick (xs : List Int) (x : Int) : Prop := x ∈ xs
abbrev s__law_pick : Stmt := (topS 117)
abbrev N__law_pick : List Str := ["_law_pot_here", "_law_some"]
theorem sc__law_pick : FnScope N__law_pick ["_law_pot_here", "_law_some"] (defScope s__law_pick) := ⟨rfl, rfl, rfl, by decide +kernel, rfl, by decide +kernel, by decide +kernel⟩
abbrev T__law_pick (P : Program) (w : World) (K : PySem.W.Frag) (mg : Str → Option Value) (base : Heap) : Prop := Ok P w K mg base "_law_pick" 42 ["_law_pot_here", "_law_some"] (spPot (rL rI) A__law_pick rI P__law_pick)
theorem ok__law_pick (T : Tx P K mg base) (d : Df K mg "_law_pick" s__law_pick) (O__law_draw : T__law_draw P w K mg base) : T__law_pick P w K mg base := by
  refine mkOk d sc__law_pick (fun _ _ _ _ _ _ us hl => match us, hl with | [_, _], _ => rfl) lenPot fun f cdv A outer s H E hr => ?_
  have nd := sc__law_pick.nd
  refine ⟨_, (pss_one (ps_ret (pe_ix (ix_listK (K := K) rfl) (pv 1) (pe_callO O__law_draw (hr.mono (by decide)) (by rfl) (pa_cons (pv 0) (pa_cons (pe_callB (call_lenK (K := K) rfl) (by rfl) T.len bt_len (pa_cons (pv 1) pa_nil)) pa_nil))) (fun _ _ => rfl)))), finPot (n := 0) rfl ?_⟩
  intro l xs Gs Hs Q c k
  have O := phi0 l Gs Hs
  have h0 : 0 < xs.length := List.length_pos_iff.mpr c.1
  refine x_out (ed_ix (Ps := fun x => x ∈ xs) O (eg_var 1 rfl) (ed_draw O rfl (ed_of O (eg_len (eg_var 1 rfl))) (fun y hy => by subst hy; have := c.2; exact ⟨by omega, by omega⟩)) ?_) (fun x hx => hx) k rfl
  rintro i ⟨y, rfl, d0, d1⟩
  obtain ⟨n, rfl⟩ := Int.eq_ofNat_of_zero_le d0
  have hn : n < xs.length := by omega
  exact ⟨xs[n], atI_of (by simp [hn]), List.getElem_mem hn⟩
abbrev s__law_pot : Stmt := (topS 115)
abbrev N__law_pot : List Str := ["_law_script", "_law_k", "_law_cell"]
theorem sc__law_pot : FnScope N__law_pot ["_law_script", "_law_k"] (defScope s__law_pot) := ⟨rfl, rfl, rfl, by decide +kernel, rfl, by decide +kernel, by decide +kernel⟩
abbrev T__law_pot (P : Program) (w : World) (K : PySem.W.Frag) (mg : Str → Option Value) (base : Heap) : Prop := Ok P w K mg base "_law_pot" 41 ["_law_script", "_law_k"] (sp2N (rS K) rI A__law_pot rI m__law_pot)
theorem ok__law_pot (T : Tx P K mg base) (d : Df K mg "_law_pot" s__law_pot) : T__law_pot P w K mg base := by
  refine mkOk d sc__law_pot (fun _ _ _ _ _ _ us hl => match us, hl with | [_, _], _ => rfl) len2N fun f cdv A outer s H E hr => ?_
  have nd := sc__law_pot.nd
  refine ⟨_, (pss_cons (ps_set (i := 2) nd rfl (Or.inl rfl) (pe_op op_add (pe_op op_add (pe_op op_mulP pe_int (pv 1)) pe_int) (pe_op op_mod (pe_callB (cr_sumK (K := K) rfl rfl) (by rfl) T.sum bt_sum (pa_cons (pe_slice (sl_listK (K := K) rfl) (pv 0) po_none (po_some pe_int)) pa_nil)) pe_int)))
      (pss_cons (ps_if (pt_cmpR op_lt (pv 1) (pe_callB (call_lenK (K := K) rfl) (by rfl) T.len bt_len (pa_cons (pv 0) pa_nil)) (nomark _)) (pss_one (ps_set (i := 2) nd rfl (Or.inl rfl) (pe_callB call_abs (by rfl) T.abs bt_abs (pa_cons (pe_ix (ix_listK (K := K) rfl) (pv 0) (pv 1) (fun _ _ => rfl)) pa_nil)))) pss_nil)
      (pss_one (ps_ret (pe_lst (pa_cons (pe_callB (call_max2 rfl) (by rfl) T.max bt_max (pa_cons pe_int (pa_cons (pe_op op_sub (pv 2) (pe_op op_pow pe_int pe_int)) pa_nil))) (pa_cons (pe_op op_add (pe_op op_mod (pe_op op_mulP (pe_callTy call_int1 (by rfl) T.int bt_int (pa_cons (pe_op op_add (pe_op op_mod (pe_callTy call_int1 (by rfl) T.int bt_int (pa_cons (pv 2) pa_nil)) pe_int) pe_int) pa_nil)) (pe_op op_pow (pe_op op_add (pe_op op_mulP pe_int (pv 1)) pe_int) pe_int)) pe_int) pe_int) pa_nil))))))), fin2N (n := 1) rfl ?_⟩
  intro script kk G H Q c k
  have ck : kk = 0 := c
  subst ck
  have c0 : 0 ≤ cellOf script := by
    unfold cellOf
    split
    · decide
    · split <;> omega
  have fin : Sg G H (fun _ => True) [.im (rS K) script, .im rI 0, .im rI (cellOf script)] (tRet (tLst (tCons (tCB (fun xs H Q => ∃ i j, xs = [V.int i, V.int j] ∧ Q (.int (if j > i then j else i)) H) (tCons (tC (.int 0)) (tCons (tOp (rI0 fun i j => .int (i - j)) (tVar 2) (tOp (L2.rI CPow fun i j => .int (i ^ j.toNat)) (tC (.int 10)) (tC (.int 18)))) tNil))) (tCons (tOp (rI0 fun i j => .int (i + j)) (tOp (L2.rI (fun _ j => 0 < j) fun i j => .int (i % j)) (tOp (L2.rI (fun i j => Sm i ∧ Sm j) fun i j => .int (i * j)) (tCB (fun xs H Q => (∃ i, xs = [V.int i] ∧ Q (.int i) H) ∨ ∃ k, xs = [V.bl k] ∧ Q (.int (if k then 1 else 0)) H) (tCons (tOp (rI0 fun i j => .int (i + j)) (tOp (L2.rI (fun _ j => 0 < j) fun i j => .int (i % j)) (tCB (fun xs H Q => (∃ i, xs = [V.int i] ∧ Q (.int i) H) ∨ ∃ k, xs = [V.bl k] ∧ Q (.int (if k then 1 else 0)) H) (tCons (tVar 2) tNil)) (tC (.int 2147483549))) (tC (.int 17299))) tNil)) (tOp (L2.rI CPow fun i j => .int (i ^ j.toNat)) (tOp (rI0 fun i j => .int (i + j)) (tOp (L2.rI (fun i j => Sm i ∧ Sm j) fun i j => .int (i * j)) (tC (.int 2)) (tVar 1)) (tC (.int 5))) (tC (.int 3)))) (tC (.int 2147483477))) (tC (.int 1))) tNil)))) { nx := fun _ H' => Q .non H', rt := Q } := by
    refine sg_retN ((en_lst (er_cons (eg_max eg_int (eg_sub (eg_var 2 rfl) (eg_pow eg_int eg_int ⟨by decide, by decide, by decide⟩))) (er_cons (eg_add (eg_mod (eg_mulP (eg_intI (eg_add (eg_mod (eg_intI (eg_var 2 rfl)) eg_int (by decide)) eg_int)) (eg_pow (eg_add (eg_mulP eg_int (eg_var 1 rfl) (sm_small (by decide)) (sm_small (by decide))) eg_int) eg_int ⟨by decide, by decide, by decide⟩) ?_ (sm_small (by decide))) eg_int (by decide)) eg_int) er_nil)) (show 2 < big by decide)).cast ?_) k rfl
    · have := Int.emod_lt_of_pos (cellOf script) (show (0 : Int) < 2147483549 by decide)
      have := Int.emod_nonneg (cellOf script) (show (2147483549 : Int) ≠ 0 by decide)
      exact sm_small (by omega)
    · rfl
  have e1 : cutL script none (some 1) = script.take 1 := by
    rcases script with _ | ⟨x, xs⟩
    · rfl
    · rw [cut_take _ (by decide) (by simp)]
      rfl
  refine sg_seq (sg_asg up_true (eg_add (eg_add (eg_mulP eg_int (eg_var 1 rfl) (sm_small (by decide)) (sm_small (by decide))) eg_int) (eg_mod (eg_sum ((en_sliceS (eg_var 0 rfl) po_no (po_so eg_int)).cast e1).eg) eg_int (by decide))) (nx_go ?_))
  refine sg_seq (sg_if (b := decide ((0 : Int) < (script.length : Int))) up_true (tg_val (eg_lt (eg_var 1 rfl) (eg_lenS (eg_var 0 rfl)))) (fun h => ?_) (fun h => sg_next (nx_go ?_)))
  · have h' := of_decide_eq_true h
    rcases script with _ | ⟨x, xs⟩
    · exact absurd h' (by simp)
    · refine sg_asg up_true (eg_abs (eg_ixS (eg_var 0 rfl) (eg_var 1 rfl) at_zero)) (nx_go ?_)
      exact fin
  · have h' := of_decide_eq_false h
    rcases script with _ | ⟨x, xs⟩
    · exact fin
    · exact absurd (by simp : (0 : Int) < ((x :: xs).length : Int)) h'
end
end TW
set_option Elab.async false
set_option linter.all false
set_option maxRecDepth 100000
set_option maxHeartbeats 4000000
/-! The dict of kinds. -/
namespace TW
open PySem PySem.Spec PyProof.Rows L2
abbrev Kd := List (Int × Int)
def dkv (ks : Kd) : List (Key × V) := ks.map fun p => (Sum.inl p.1, V.int p.2)
def valD (ks : Kd) (k : Int) : Option Int := (ks.find? fun p => decide (p.1 = k)).map (·.2)
def putD (ks : Kd) (k v : Int) : Kd := if (valD ks k).isSome then ks.map fun p => if p.1 = k then (p.1, v) else p else ks ++ [(k, v)]
theorem _root_.L2.Room.lines1 {k : Nat} {A : Around} (r : Room k A) : A.units + 1 < cLine := by have := r.un; omega
theorem valD_dkv (ks : Kd) (k : Int) : valV (dkv ks) (Sum.inl k) = (valD ks k).map V.int := by
  unfold valV valD dkv
  induction ks with
  | nil => rfl
  | cons p ks ih =>
    rw [List.map_cons, List.find?_cons, List.find?_cons]
    by_cases h : p.1 = k
    · have h' : (Sum.inl p.1 : Key) = Sum.inl k := by rw [h]
      simp [h]
    · have h' : ¬ (Sum.inl p.1 : Key) = Sum.inl k := fun e => h (Sum.inl.inj e)
      simp [h]
      simpa using ih
theorem putD_dkv (ks : Kd) (k v : Int) : putK (dkv ks) (Sum.inl k) (V.int v) = dkv (putD ks k v) := by
  have e : ((dkv ks).any fun kv => decide (kv.1 = (Sum.inl k : Key))) = (valD ks k).isSome := by
    rw [valV_any, valD_dkv, Option.isSome_map]
  unfold putK putD
  rw [e]
  by_cases h : (valD ks k).isSome = true
  · rw [if_pos h, if_pos h]
    unfold dkv
    rw [List.map_map, List.map_map]
    refine List.map_congr_left fun p _ => ?_
    by_cases hp : p.1 = k
    · simp [hp]
    · simp [hp]
  · rw [if_neg h, if_neg h]
    unfold dkv
    rw [List.map_append]
    rfl
def PhiD (l : Addr) (i : Nat) (fr : Bool) (Gs Hs : Hp) (ks : Kd) : L2.St → Hp → Hp → Prop := fun σ G H => Phi0 l Gs Hs σ G H ∧ ∃ d, σ[i]? = some (some (.ref d)) ∧ d ≠ l ∧ H d = some (.dK (dkv ks)) ∧ G d = none ∧ (fr = true → Hs d = none)
theorem phiD (l : Addr) (i : Nat) (fr : Bool) (Gs Hs : Hp) (ks : Kd) : PhiOk l [0, i] (PhiD l i fr Gs Hs ks) := ⟨fun h => (phi0 l Gs Hs).pot h.1, fun ⟨h, d, e, ne, hd, gd, fd⟩ p q => ⟨(phi0 l Gs Hs).stab h p q, d, e, ne, p.h d _ ne hd, p.f d (by rw [hd]; exact fun z => nomatch z) gd, fd⟩,
  fun {σ G H j o} hj ⟨h, d, e, r⟩ => ⟨(phi0 l Gs Hs).set (fun z => hj (by simp at z; rw [z]; exact List.mem_cons_self ..)) h, d, by
    rw [List.getElem?_set_ne (fun z => hj (by rw [z]; exact List.mem_cons_of_mem _ (List.mem_cons_self ..)))]
    exact e, r⟩⟩
section
variable {α β γ : Type} {l : Addr} {i : Nat} {fr : Bool} {Gs Hs : Hp} {ks : Kd} {Γ : List Sl} {Ψ : L2.St → Hp → Hp → Prop} {pr : List Nat} {R : RT α} {te ta tb tv ty : TE} {D : Ends} {K : PySem.W.Frag}
theorem ed_dget {Pk Pv : Int → Prop} (hΨ : ∀ σ G H, Ψ σ G H → PhiD l i fr Gs Hs ks σ G H) (hk : ED Ψ Γ ty rI Pk) (h : ∀ k, Pk k → ∃ v, valD ks k = some v ∧ Pv v) (st : ∀ σ G H, Ψ σ G H → True := fun _ _ _ _ => trivial) : ED Ψ Γ (tDGet (tVar i) ty) rI Pv := fun σ G H Q s t p k => by
  obtain ⟨_, d, e, ne, hd, gd, _⟩ := hΨ _ _ _ p
  refine ⟨.ref d, e, hk σ G H _ s t p fun x v G1 H1 hx g1 s1 t1 p1 r1 => ?_⟩
  obtain ⟨_, d1, e1, ne1, hd1, gd1, _⟩ := hΨ _ _ _ p1
  rw [e] at e1
  cases e1
  obtain ⟨y, hy, py⟩ := h x hx
  obtain rfl : v = .int x := r1
  have dg := DGet.k (k := Sum.inl x) hd1
  rw [valD_dkv, hy] at dg
  exact ⟨d, .int y, rfl, dg, k y _ G1 H1 py g1 s1 t1 p1 rfl⟩
theorem ed_dget2 {Pk Pv : Int → Prop} {z : Int} (hΨ : ∀ σ G H, Ψ σ G H → PhiD l i fr Gs Hs ks σ G H) (hk : ED Ψ Γ ty rI Pk) (h : ∀ k, Pk k → Pv ((valD ks k).getD z)) : ED Ψ Γ (tDGet2 (tVar i) ty (tC (.int z))) rI Pv := fun σ G H Q s t p k => by
  obtain ⟨_, d, e, ne, hd, gd, _⟩ := hΨ _ _ _ p
  refine ⟨.ref d, e, d, rfl, .inl ⟨_, .inl hd⟩, hk σ G H _ s t p fun x v G1 H1 hx g1 s1 t1 p1 r1 => ?_⟩
  obtain ⟨_, d1, e1, ne1, hd1, gd1, _⟩ := hΨ _ _ _ p1
  rw [e] at e1
  cases e1
  obtain rfl : v = .int x := r1
  have dg := DGet.k (k := Sum.inl x) hd1
  rw [valD_dkv] at dg
  refine ⟨_, dg, ?_⟩
  have : ((valD ks x).map V.int).getD (V.int z) = V.int ((valD ks x).getD z) := by cases valD ks x <;> rfl
  rw [this]
  exact k _ _ G1 H1 (h x hx) g1 s1 t1 p1 rfl
/-- found != {} -/
def rNeDE : R2 := fun x y H Q => ∃ a b kvs, x = .ref a ∧ y = .ref b ∧ H a = some (.dK kvs) ∧ H b = some (.dK []) ∧ Q (.bl (!kvs.isEmpty)) H
theorem op_neDE {X : Cx} (hu : X.A.units < cLine) : OpR X (compareOp .NotEq) rNeDE := by
  intro pins s σ H x y v u Q I rx ry h
  obtain ⟨a, b, kvs, rfl, rfl, ea, eb, q⟩ := h
  cases rx
  cases ry
  by_cases hk : kvs = []
  · subst hk
    refine op_ne_dictA hu pins s σ H (.ref a) (.ref b) _ _ Q I rfl rfl ⟨a, b, [], [], rfl, rfl, ea, eb, rfl, ⟨fun p hp => by simp at hp, q⟩⟩
  · obtain ⟨_, ya, va, ra, da⟩ := (show ObjOk X.prog X.w H s.heap a (.dK kvs) from I.hok a _ ea)
    obtain ⟨_, yb, vb, rb, db⟩ := (show ObjOk X.prog X.w H s.heap b (.dK []) from I.hok b _ eb)
    have l1 : va.length ≠ vb.length := by
      rw [← ra.length, ← rb.length]
      exact fun z => hk (List.eq_nil_of_length_eq_zero z)
    refine PySem.W.keq_ne (knd := mixKind X.prog X.w) (r := true) ya yb da db hu (fun z => absurd z l1) ?_
    have e : (!(va.length == vb.length && true)) = !kvs.isEmpty := by
      have h1 : (va.length == vb.length) = false := beq_eq_false_iff_ne.mpr l1
      rw [h1]
      cases kvs with
      | nil => exact absurd rfl hk
      | cons _ _ => rfl
    rw [e]
    exact ⟨.bl _, H, I, rfl, q⟩
theorem ed_neD (O : PhiOk l pr Ψ) (hΨ : ∀ σ G H, Ψ σ G H → PhiD l i fr Gs Hs ks σ G H) : ED Ψ Γ (tOp rNeDE (tVar i) tDNewK) rB (fun b => b = !ks.isEmpty) := fun σ G H Q s t p k => by
  obtain ⟨_, d, e, ne, hd, gd, _⟩ := hΨ _ _ _ p
  refine ⟨.ref d, e, fun b hb => ?_⟩
  have st : Step G H G (upd H b (.dK [])) := Step.newO s hb
  refine ⟨d, b, dkv ks, rfl, rfl, by rw [upd_ne (ne_of_none hd hb)]; exact hd, upd_same, ?_⟩
  have e2 : (dkv ks).isEmpty = ks.isEmpty := by cases ks <;> rfl
  rw [e2]
  exact k _ _ G _ rfl (Same.refl _) st.s (t.step st) (O.stab p st.p ((O.pot p).2.2.keep st.h)) rfl
/-- found[k] = v -/
theorem x_dput {Pk Pv : Int → Prop} {Ψf : Kd → L2.St → Hp → Hp → Prop} (O : PhiOk l pr (Ψf ks)) (no : NoOwn Γ) (hΨ : ∀ ks σ G H, Ψf ks σ G H → PhiD l i true Gs Hs ks σ G H)
    (up : ∀ ks' σ G H H', Ψf ks σ G H → PhiD l i true Gs Hs ks' σ G H' → Ψf ks' σ G H') (hv : ED (Ψf ks) Γ tv rI Pv) (hk : ED (Ψf ks) Γ ty rI Pk) (z : ks.length < 1000) (k : ∀ x v, Pk x → Pv v → NxX (Ψf (putD ks x v)) Γ D) :
    SgX (Ψf ks) Γ (sDPut (tVar i) ty tv) D := fun σ H ⟨G, s, t, p⟩ =>
  hv σ G H _ s t p fun v u G1 H1 hv' g1 s1 t1 p1 r1 => by
    obtain ⟨_, d, e, ne, hd, gd, _⟩ := hΨ _ _ _ _ p1
    refine ⟨.ref d, e, hk σ G1 H1 _ s1 t1 p1 fun x w G2 H2 hx g2 s2 t2 p2 r2 => ?_⟩
    obtain ⟨ph, d2, e2, ne2, hd2, gd2, fd2⟩ := hΨ _ _ _ _ p2
    rw [e] at e2
    cases e2
    obtain rfl : u = .int v := r1
    obtain rfl : w = .int x := r2
    have dp := DPut.k (k := Sum.inl x) (v := .int v) hd2 (by unfold dkv; rw [List.length_map]; exact Nat.lt_of_lt_of_le z (by decide))
    rw [putD_dkv] at dp
    refine ⟨d, _, rfl, dp, ?_⟩
    have s3 : Same G2 (upd H2 d (.dK (dkv (putD ks x v)))) := same_out s2 gd2
    obtain ⟨q0, q1, q2, q3⟩ := ph
    have sp : StepP l Gs Hs G2 (upd H2 d (.dK (dkv (putD ks x v)))) := by
      refine ⟨q3.g, s3, fun b o nb eb => ?_, q3.f, fun b hb => ?_⟩
      · by_cases hbd : b = d
        · rw [hbd, fd2 rfl] at eb
          cases eb
        · rw [upd_ne hbd]
          exact q3.h b o nb eb
      · by_cases hbd : b = d
        · rw [hbd, upd_same]
          exact fun z => nomatch z
        · rw [upd_ne hbd]
          exact q3.n b hb
    refine k x v hx hv' σ _ ⟨G2, s3, t2.noown no (Same.refl _), up _ _ _ _ _ p2 ⟨⟨q0, q1, ?_, sp⟩, d, e, ne, upd_same, gd2, fd2⟩⟩
    obtain ⟨a, b, ep, r⟩ := q2
    exact ⟨a, b, by rw [upd_ne ne.symm]; exact ep, r⟩
/-- a, found, b = e, {}, e2 -/
theorem x_par3D {β : Type} {S : RT β} {x : α} {y : β} {m n : Nat} (O : PhiOk l [0] (Phi0 l Gs Hs)) (hm : m ≠ 0 ∧ m ≠ i) (hi : i ≠ 0) (hn : n ≠ 0 ∧ n ≠ i) (hil : i < Γ.length) (h1 : EG Γ ta R x) (h2 : EG Γ tb S y) (k : NxX (PhiD l i true Gs Hs []) (st (st (st Γ m (.im R x)) i .no) n (.im S y)) D) :
    SgX (Phi0 l Gs Hs) Γ (tPar3 m i n (tCons ta (tCons tDNewK (tCons tb tNil)))) D := fun σ H ⟨G, s, ty, p⟩ =>
  h1 Emp σ G H _ (same_emp _) s ty fun v G1 H1 p1 r1 => by
    intro d hd
    have q1 := (phi0 l Gs Hs).stab p p1.p (((phi0 l Gs Hs).pot p).2.2.keep p1.h)
    have st2 : Step G1 H1 G1 (upd H1 d (.dK [])) := Step.newO p1.s hd
    have q2 := (phi0 l Gs Hs).stab q1 st2.p (((phi0 l Gs Hs).pot q1).2.2.keep st2.h)
    have t2 := (ty.step p1).step st2
    refine h2 Emp σ G1 _ _ (same_emp _) st2.s t2 fun w G3 H3 p3 r3 => ?_
    have q3 := (phi0 l Gs Hs).stab q2 p3.p (((phi0 l Gs Hs).pot q2).2.2.keep p3.h)
    have gd : G1 d = none := p1.s.free hd
    have hd3 : H3 d = some (.dK []) := p3.h _ _ upd_same
    have gd3 : G3 d = none := p3.f d (by rw [upd_same]; exact fun z => nomatch z) gd
    have nel : d ≠ l := fun e => by
      obtain ⟨_, _, a, b, e2, _⟩ := (phi0 l Gs Hs).pot q1
      rw [e, e2] at hd
      cases hd
    have hsd : Hs d = none := by
      cases hh : Hs d with
      | none => rfl
      | some o => exact absurd (q1.2.2.2.h d o nel hh) (by rw [hd]; exact fun z => nomatch z)
    have t4 := (((t2.step p3).set_im (i := m) (R.mono p3.g r1)).wipe1 (i := i) (o := some (.ref d))).set_im (i := n) r3
    have hl : i < σ.length := by rw [ty.len]; exact hil
    refine ⟨v, .ref d, w, rfl, k _ _ ⟨G3, p3.s, t4, ⟨?_, q3.2⟩, d, ?_, nel, hd3, gd3, fun _ => hsd⟩⟩
    · rw [List.getElem?_set_ne hn.1, List.getElem?_set_ne hi, List.getElem?_set_ne hm.1]
      exact q3.1
    · rw [List.getElem?_set_ne hn.2, List.getElem?_set_self (by rw [List.length_set]; exact hl)]
/-! promises about the dict -/
/-- a def that gets the pot and one thing more and hands back a new dict -/
def spPotK {β : Type} (S : RT β) (A : β → Prop) (Ps : β → Kd → Prop) : Sp := fun vs H Q _ => ∃ l w y G, vs = [.ref l, w] ∧ Same G H ∧ G l = none ∧ PotAt H l ∧ S.rel G w y ∧ A y ∧
  ∀ ks d G' H', Ps y ks → StepP l G H G' H' → PotAt H' l → d ≠ l → H d = none → G' d = none → H' d = some (.dK (dkv ks)) → Q (.ref d) H'
theorem lenPotK {β : Type} {S : RT β} {A : β → Prop} {Ps : β → Kd → Prop} : ∀ vs H Q E, spPotK S A Ps vs H Q E → vs.length = 2 := fun vs H Q E ⟨l, _, y, G, e, _⟩ => by rw [e]; rfl
/-- a def that gets the pot and a dict -/
def spPotD (A : Kd → Prop) (U : RT γ) (Ps : Kd → γ → Prop) : Sp := fun vs H Q _ => ∃ l d ks G, vs = [.ref l, .ref d] ∧ Same G H ∧ G l = none ∧ PotAt H l ∧ d ≠ l ∧ H d = some (.dK (dkv ks)) ∧ G d = none ∧ A ks ∧
  ∀ x v G' H', Ps ks x → StepP l G H G' H' → PotAt H' l → U.rel G' v x → Q v H'
theorem lenPotD {U : RT γ} {A : Kd → Prop} {Ps : Kd → γ → Prop} : ∀ vs H Q E, spPotD A U Ps vs H Q E → vs.length = 2 := fun vs H Q E ⟨l, _, y, G, e, _⟩ => by rw [e]; rfl
def RetK (l : Addr) (Ps : Kd → Prop) (Gs Hs : Hp) (Q : VK) : Prop := ∀ ks d G' H', Ps ks → StepP l Gs Hs G' H' → PotAt H' l → d ≠ l → Hs d = none → G' d = none → H' d = some (.dK (dkv ks)) → Q (.ref d) H'
theorem ty_pot {β : Type} {S : RT β} {y : β} {N : List Str} {n : Nat} {lv w : V} {G H : Hp} (hn : N.length = n + 2) (r : S.rel G w y) : Ty Emp (.no :: .im S y :: nos n) (L2.start N [lv, w]) G H := by
  have ty : Ty H (.im rAny () :: .im S y :: nos n) (L2.start N [lv, w]) G H := Ini.ty (.cons trivial (.cons r (.nil n))) (by rw [List.length_cons, List.length_cons, nos_len, hn])
  have t1 := ty.weak (Γ' := .no :: .im S y :: nos n) ⟨.inl rfl, .inr rfl, Wk.refl _⟩
  refine ⟨t1.len, fun i => ?_, fun i j l' hi => ?_⟩
  · match i with
    | 0 => exact trivial
    | 1 => exact t1.at_ 1
    | i + 2 =>
      show SlOk _ _ _ _ (gt (nos n) i)
      rw [gt_nos]
      trivial
  · exfalso
    match i with
    | 0 => cases hi
    | 1 => cases hi
    | i + 2 =>
      have : isOwn (gt (nos n) i) = true := hi
      rw [gt_nos] at this
      cases this
theorem finPotK {β : Type} {S : RT β} {N : List Str} {E : XK} {A : β → Prop} {Ps : β → Kd → Prop} {n : Nat} {t : TS} (hn : N.length = n + 2)
    (h : ∀ (l : Addr) (y : β) (Gs Hs : Hp) (Q : VK), A y → RetK l (Ps y) Gs Hs Q → SgX (Phi0 l Gs Hs) (.no :: .im S y :: nos n) t { nx := fun _ H' => Q .non H', rt := Q }) :
    ∀ (vs : List V) (H' : Hp) (Q : VK), spPotK S A Ps vs H' Q E → t { nx := fun _ H' => Q .non H', rt := Q } (L2.start N vs) H' := fun vs H Q ⟨l, w, y, G, e, s, gl, pt, r, c, k⟩ => by
  subst e
  exact h l y G H Q c k _ _ ⟨G, s, ty_pot hn r, rfl, gl, pt, StepP.refl s⟩
theorem finPotD {U : RT γ} {N : List Str} {E : XK} {A : Kd → Prop} {Ps : Kd → γ → Prop} {n : Nat} {t : TS} (hn : N.length = n + 2)
    (h : ∀ (l : Addr) (ks : Kd) (Gs Hs : Hp) (Q : VK), A ks → RetP l U (Ps ks) Gs Hs Q → SgX (PhiD l 1 false Gs Hs ks) (.no :: .no :: nos n) t { nx := fun _ H' => Q .non H', rt := Q }) :
    ∀ (vs : List V) (H' : Hp) (Q : VK), spPotD A U Ps vs H' Q E → t { nx := fun _ H' => Q .non H', rt := Q } (L2.start N vs) H' := fun vs H Q ⟨l, d, ks, G, e, s, gl, pt, ne, hd, gd, c, k⟩ => by
  subst e
  have ty := ty_pot (S := rAny) (y := ()) (lv := .ref l) (w := .ref d) (G := G) (H := H) hn trivial
  exact h l ks G H Q c k _ _ ⟨G, s, ty.weak ⟨.inr rfl, .inl rfl, Wk.refl _⟩, ⟨rfl, gl, pt, StepP.refl s⟩, d, rfl, ne, hd, gd, fun z => nomatch z⟩
theorem x_retKinds {Ps : Kd → Prop} {Q : VK} (k : RetK l Ps Gs Hs Q) (e : D.rt = Q) (h1 : ks ≠ [] → Ps ks) (h2 : Ps [(0, 1)]) :
    SgX (PhiD l i true Gs Hs ks) Γ (tRet (tIf (tTest (tOp rNeDE (tVar i) tDNewK)) (tVar i) (tDisp [(tC (.int 0), tC (.int 1))]))) D := fun σ H ⟨G, s, ty, p⟩ => by
  refine ed_neD (phiD l i true Gs Hs ks) (fun _ _ _ h => h) σ G H _ s ty p fun b v G1 H1 hb g1 s1 t1 p1 r1 => ⟨b, r1, ?_⟩
  rw [e]
  obtain ⟨ph, d, ed, ne, hd, gd, fd⟩ := p1
  by_cases hk : ks = []
  · have hbf : b = false := by rw [hb, hk]; rfl
    rw [hbf]
    refine iteF fun q hq => ?_
    have nq : q ≠ l := fun z => by
      obtain ⟨_, _, ⟨a, c, e2, _⟩, _⟩ := ph
      rw [z, e2] at hq
      cases hq
    refine ⟨upd_same, dkv [(0, 1)], rfl, by decide, ?_⟩
    have hs : Hs q = none := by
      cases hh : Hs q with
      | none => rfl
      | some o => exact absurd (ph.2.2.2.h q o nq hh) (by rw [hq]; exact fun z => nomatch z)
    have st1 : Step G1 H1 G1 (upd H1 q (.dK [])) := Step.newO s1 hq
    have gq : G1 q = none := s1.free hq
    have st : StepP l G1 H1 G1 (upd (upd H1 q (.dK [])) q (.dK (dkv [(0, 1)]))) := by
      refine ⟨Same.refl _, same_out st1.s gq, fun b o _ eb => ?_, fun _ _ h => h, fun b hb => ?_⟩
      · have nb : b ≠ q := ne_of_none eb hq
        rw [upd_ne nb, upd_ne nb]
        exact eb
      · have nb : b ≠ q := fun z => hb (by rw [z]; exact hq)
        rw [upd_ne nb, upd_ne nb]
        exact hb
    have pt : PotAt (upd (upd H1 q (.dK [])) q (.dK (dkv [(0, 1)]))) l := by
      obtain ⟨a, c, e2, r⟩ := ph.2.2.1
      exact ⟨a, c, by rw [upd_ne nq.symm, upd_ne nq.symm]; exact e2, r⟩
    exact k [(0, 1)] q G1 (upd (upd H1 q (.dK [])) q (.dK (dkv [(0, 1)]))) h2 (ph.2.2.2.trans st) pt nq hs gq upd_same
  · have hbt : b = true := by
      rw [hb]
      cases ks with
      | nil => exact absurd rfl hk
      | cons _ _ => rfl
    rw [hbt]
    exact iteT ⟨.ref d, ed, k ks d G1 H1 (h1 hk) ph.2.2.2 ph.2.2.1 ne (fd rfl) gd hd⟩
theorem ed_sorted (O : PhiOk l pr Ψ) (hΨ : ∀ σ G H, Ψ σ G H → PhiD l i fr Gs Hs ks σ G H) (z : ks.length < 64) :
    ED Ψ Γ (tCB (fun xs H Q => ∃ (a : Addr) (kvs : List (Key × V)) (ns : List Int), xs = [.ref a] ∧ Rd H a (.dK kvs) ∧ kvs.map (·.1) = ns.map Sum.inl ∧ ns.length < 64 ∧ ∀ (ys : List Int) (p : Addr), ys.Perm ns → ys.Pairwise (· ≤ ·) → H p = none → Q (.ref p) (upd H p (.lst (ys.map V.int)))) (tCons (tVar i) tNil))
      (rL rI) (fun ys => ys.Perm (ks.map (·.1)) ∧ ys.Pairwise (· ≤ ·)) := fun σ G H Q s t p k => by
  obtain ⟨_, d, e, ne, hd, gd, _⟩ := hΨ _ _ _ p
  refine ⟨.ref d, e, d, dkv ks, ks.map (·.1), rfl, .inl hd, ?_, by rw [List.length_map]; exact z, fun ys q hp hw hq => ?_⟩
  · unfold dkv
    rw [List.map_map, List.map_map]
    rfl
  · have st := Step.new (o := .lst (ys.map V.int)) s hq
    have hl : ys.length < big := by
      have := hp.length_eq
      rw [List.length_map] at this
      unfold big
      omega
    exact k ys _ _ _ ⟨hp, hw⟩ st.g st.s (t.step st) (O.stab p st.p ((O.pot p).2.2.keep st.h)) ⟨q, ys.map V.int, rfl, upd_same, all2_map _ ys, hl⟩
end
end TW
set_option Elab.async false
set_option linter.all false
set_option maxRecDepth 100000
set_option maxHeartbeats 4000000
namespace TW
open PySem PySem.Spec PyProof.Rows L2
def kindSize (a : Int) : Int := (((atL ((m__law_known[a.toNat]?).map (·.1) |>.getD []) 0).length : Nat) : Int)
def total (f : Int → Int) (ks : Kd) : Int := (ks.map fun p => p.2 * f p.1).sum
theorem valD_none {ks : Kd} {a : Int} (h : a ∉ ks.map (·.1)) : valD ks a = none := by
  unfold valD
  rw [List.find?_eq_none.mpr]
  · rfl
  · intro p hp e
    exact h (List.mem_map.mpr ⟨p, hp, of_decide_eq_true e⟩)
theorem valD_mem {ks : Kd} {a : Int} (h : a ∈ ks.map (·.1)) : ∃ v, valD ks a = some v ∧ (a, v) ∈ ks := by
  induction ks with
  | nil => cases h
  | cons p ks ih =>
    unfold valD
    rw [List.find?_cons]
    by_cases e : p.1 = a
    · rw [decide_eq_true e]
      exact ⟨p.2, rfl, by rw [← e]; exact List.mem_cons_self ..⟩
    · rw [decide_eq_false e]
      rcases List.mem_cons.mp (show a ∈ p.1 :: ks.map (·.1) from h) with e2 | h2
      · exact absurd e2.symm e
      · obtain ⟨v, e3, m⟩ := ih h2
        exact ⟨v, e3, List.mem_cons_of_mem _ m⟩
theorem putD_new {ks : Kd} {a v : Int} (h : a ∉ ks.map (·.1)) : putD ks a v = ks ++ [(a, v)] := by
  unfold putD
  rw [valD_none h]
  rfl
theorem map_same {ks : Kd} {a v : Int} (h : a ∉ ks.map (·.1)) : (ks.map fun p => if p.1 = a then (p.1, v) else p) = ks := by
  conv => rhs; rw [← List.map_id ks]
  refine List.map_congr_left fun p hp => ?_
  rw [if_neg fun e => h (List.mem_map.mpr ⟨p, hp, e⟩)]
  rfl
theorem total_put (f : Int → Int) {ks : Kd} (nd : (ks.map (·.1)).Nodup) (a : Int) : total f (putD ks a ((valD ks a).getD 0 + 1)) = total f ks + f a := by
  by_cases h : a ∈ ks.map (·.1)
  · obtain ⟨v, e, hv⟩ := valD_mem h
    clear hv
    unfold putD
    rw [e]
    show total f (ks.map fun p => if p.1 = a then (p.1, v + 1) else p) = _
    induction ks with
    | nil => cases h
    | cons p ks ih =>
      rw [List.map_cons, List.nodup_cons] at nd
      unfold valD at e
      rw [List.find?_cons] at e
      by_cases ep : p.1 = a
      · simp [ep] at e
        rw [List.map_cons, if_pos ep, map_same (by rw [← ep]; exact nd.1)]
        unfold total
        rw [List.map_cons, List.sum_cons, List.map_cons, List.sum_cons, ep, e, Int.add_mul, Int.one_mul]
        omega
      · rw [decide_eq_false ep] at e
        rcases List.mem_cons.mp (show a ∈ p.1 :: ks.map (·.1) from h) with e2 | h2
        · exact absurd e2.symm ep
        · have := ih nd.2 h2 e
          rw [List.map_cons, if_neg ep]
          unfold total at this ⊢
          rw [List.map_cons, List.sum_cons, this, List.map_cons, List.sum_cons]
          omega
  · rw [valD_none h, putD_new h]
    unfold total
    rw [List.map_append, List.sum_append]
    simp
theorem keys_put {ks : Kd} (nd : (ks.map (·.1)).Nodup) (a v : Int) : ((putD ks a v).map (·.1)).Nodup ∧ ∀ p ∈ putD ks a v, p = (a, v) ∨ p ∈ ks := by
  by_cases h : a ∈ ks.map (·.1)
  · obtain ⟨u, e, _⟩ := valD_mem h
    have e2 : putD ks a v = ks.map fun p => if p.1 = a then (p.1, v) else p := by
      unfold putD
      rw [e]
      rfl
    rw [e2]
    constructor
    · rw [List.map_map]
      have : (ks.map ((fun x : Int × Int => x.1) ∘ fun p => if p.1 = a then (p.1, v) else p)) = ks.map (·.1) := List.map_congr_left fun p _ => by
        show (if p.1 = a then (p.1, v) else p).1 = p.1
        split <;> rfl
      rw [this]
      exact nd
    · intro p hp
      obtain ⟨q, hq, rfl⟩ := List.mem_map.mp hp
      by_cases eq : q.1 = a
      · rw [if_pos eq, eq]
        exact .inl rfl
      · rw [if_neg eq]
        exact .inr hq
  · rw [putD_new h]
    constructor
    · rw [List.map_append, List.nodup_append]
      exact ⟨nd, by simp, fun x hx y hy => by simp at hy; rw [hy]; exact fun e => h (e ▸ hx)⟩
    · intro p hp
      rcases List.mem_append.mp hp with h1 | h1
      · exact .inr h1
      · simp at h1
        exact .inl h1
/-- the dict of kinds: what is drawn -/
structure KOk (most : Int) (turns : Int) (ks : Kd) : Prop where
  nd : (ks.map (·.1)).Nodup
  rg : ∀ p ∈ ks, 0 ≤ p.1 ∧ p.1 < 8 ∧ 1 ≤ p.2
  cn : total (fun _ => 1) ks ≤ turns
  wt : total kindSize ks ≤ most
theorem total_len {ks : Kd} (h : ∀ p ∈ ks, 1 ≤ p.2) : (ks.length : Int) ≤ total (fun _ => 1) ks := by
  induction ks with
  | nil => simp [total]
  | cons p ks ih =>
    have := ih fun q hq => h q (List.mem_cons_of_mem _ hq)
    have := h p (List.mem_cons_self ..)
    unfold total at *
    rw [List.map_cons, List.sum_cons, List.length_cons]
    simp only [Int.mul_one] at *
    omega
abbrev A__law_kinds (most : Int) : Prop := 1 ≤ most
abbrev P__law_kinds (most : Int) (ks : Kd) : Prop := KOk most 3 ks ∧ ks ≠ []
section
variable {P : Program} {w : World} {K : PySem.W.Frag} {mg : Str → Option Value} {base : Heap}
abbrev s__law_kinds : Stmt := (topS 119)
abbrev N__law_kinds : List Str := ["_law_pot_here", "_law_most", "_law_known_here", "_law_found", "_law_left", "_law_turn", "_law_at", "_law_size"]
theorem sc__law_kinds : FnScope N__law_kinds ["_law_pot_here", "_law_most"] (defScope s__law_kinds) := ⟨rfl, rfl, rfl, by decide +kernel, rfl, by decide +kernel, by decide +kernel⟩
abbrev T__law_kinds (P : Program) (w : World) (K : PySem.W.Frag) (mg : Str → Option Value) (base : Heap) : Prop := Ok P w K mg base "_law_kinds" 42 ["_law_pot_here", "_law_most"] (spPotK rI A__law_kinds P__law_kinds)
theorem ok__law_kinds (T : Tx P K mg base) (d : Df K mg "_law_kinds" s__law_kinds) (O__law_known : T__law_known P w K mg base) (O__law_draw : T__law_draw P w K mg base) : T__law_kinds P w K mg base := by
  refine mkOk d sc__law_kinds (fun _ _ _ _ _ _ us hl => match us, hl with | [_, _], _ => rfl) lenPotK fun f cdv A outer s H E hr => ?_
  have nd := sc__law_kinds.nd
  refine ⟨_, (pss_cons (ps_par3 (i := 2) (j := 3) (l := 4) rfl nd rfl rfl rfl (by decide) (by decide) (by decide) rfl rfl rfl (pa_cons (pe_callO0 O__law_known (hr.mono (by decide)) (by rfl)) (pa_cons pe_dnewK (pa_cons (pv 1) pa_nil))) (by rfl))
      (pss_cons (ps_for PassesOwn.never rfl (pi_range1 (by rfl) T.range (pa_cons (pe_op op_add pe_int (pe_callO O__law_draw (hr.mono (by decide)) (by rfl) (pa_cons (pv 0) (pa_cons pe_int pa_nil)))) pa_nil)) (pg_name (i := 5) nd rfl (Or.inl rfl)) (pss_cons (ps_set (i := 6) nd rfl (Or.inl rfl) (pe_callO O__law_draw (hr.mono (by decide)) (by rfl) (pa_cons (pv 0) (pa_cons (pe_callB (call_lenK (K := K) rfl) (by rfl) T.len bt_len (pa_cons (pv 2) pa_nil)) pa_nil))))
      (pss_cons (ps_set (i := 7) nd rfl (Or.inl rfl) (pe_callB (call_lenK (K := K) rfl) (by rfl) T.len bt_len (pa_cons (pe_ix (ix_listK (K := K) rfl) (pe_ix (ix_tupK (K := K) rfl) (pe_ix (ix_listK (K := K) rfl) (pv 2) (pv 6) (fun _ _ => rfl)) pe_int (fun _ _ => rfl)) pe_int (fun _ _ => rfl)) pa_nil)))
      (pss_one (ps_if (pt_cmpR op_le (pv 7) (pv 4) (nomark _)) (pss_cons (ps_dput hr.lines1 (pv 3) (pv 6) (pe_op op_add (pe_dget2 hr.lines1 (pv 3) (pv 6) pe_int ⟨rfl, rfl, rfl, rfl⟩) pe_int) rfl)
      (pss_one (ps_set (i := 4) nd rfl (Or.inl rfl) (pe_op op_sub (pv 4) (pv 7))))) pss_nil)))))
      (pss_one (ps_ret (pe_ifExp (pt_cmpR (op_neDE hr.lines) (pv 3) pe_dnewK (nomark _)) (pv 3) (pe_disp (pps_cons pe_int pe_int pps_nil) rfl rfl (by simp) (by decide))))))), finPotK (n := 6) rfl ?_⟩
  intro l most Gs Hs Q c k
  have O0 := phi0 l Gs Hs
  refine x_seq (x_par3D O0 (by decide) (by decide) (by decide) (by simp [nos]) eg_call0 (eg_var 1 rfl) (x_go ?_))
  refine x_seq (x_for (fun b : Kd × Int => PhiD l 3 true Gs Hs b.1) (fun b => [.no, .im rI most, .im (rL rKn) m__law_known, .no, .im rI b.2, .no, .no, .no]) (fun b => phiD l 3 true Gs Hs b.1) (by decide) ([], most) ⟨.inr rfl, .inr rfl, .inr rfl, .inr rfl, .inr rfl, .inl rfl, .inl rfl, .inl rfl, trivial⟩
    (ix_range' (ed_op0 (ed_of (phiD l 3 true Gs Hs []) eg_int) (ed_draw (phiD l 3 true Gs Hs []) rfl (ed_of (phiD l 3 true Gs Hs []) eg_int) (fun y hy => by subst hy; exact ⟨by decide, by decide⟩))) ?_) ?_)
  · rintro n ⟨i, j, rfl, ⟨y, rfl, d0, d1⟩, rfl⟩
    omega
  · rintro xs ⟨n, ⟨i, j, rfl, ⟨y, rfl, d0, d1⟩, rfl⟩, rfl⟩
    refine ⟨fun n b => KOk most n b.1 ∧ b.2 = most - total kindSize b.1, ⟨⟨List.nodup_nil, (fun p hp => by cases hp), by simp [total], by simp [total]; omega⟩, by simp [total]⟩, fun n a b Ψ OΨ imp up ib ha => ?_, fun b ib => ?_⟩
    · obtain ⟨ks, left⟩ := b
      obtain ⟨ib, hl⟩ := ib
      replace ib : KOk most n ks := ib
      replace hl : left = most - total kindSize ks := hl
      have hz : ks.length < 1000 := by
        have h1 := total_len fun p hp => (ib.rg p hp).2.2
        have h2 := ib.cn
        have h3 := (upto_at ha).2
        omega
      refine x_seq (x_asg (OΨ _) (by decide) (ed_draw (OΨ _) rfl (ed_of (OΨ _) (eg_len (eg_var 2 rfl))) (fun y hy => by subst hy; exact ⟨by decide, by decide⟩)) fun at_ hat => x_go ?_)
      obtain ⟨y, rfl, a0, a1⟩ := hat
      have a1' : at_ < 8 := a1
      obtain ⟨m, rfl⟩ := Int.eq_ofNat_of_zero_le a0
      have hm : m < m__law_known.length := by show m < 8; omega
      have e1 : L2.atI m__law_known (m : Int) = some m__law_known[m] := atI_of (by simp [hm])
      have e2 : L2.atI (m__law_known[m]).1 0 = some (atL (m__law_known[m]).1 0) := by
        have : ∀ q ∈ m__law_known, L2.atI q.1 0 = some (atL q.1 0) := by decide
        exact this _ (List.getElem_mem hm)
      have ksz : kindSize (m : Int) = ((atL (m__law_known[m]).1 0).length : Int) := by
        unfold kindSize
        rw [Int.toNat_natCast, List.getElem?_eq_getElem hm]
        rfl
      refine x_seq (x_asg (OΨ _) (by decide) (ed_of (OΨ _) ((eg_len (eg_ix (eg_p41 (eg_ix (eg_var 2 rfl) (eg_var 6 rfl) e1) eg_int) eg_int e2)).cast ksz.symm)) fun z hz2 => x_go ?_)
      subst hz2
      have k0 : 0 ≤ kindSize (m : Int) := by rw [ksz]; omega
      refine x_if (b := decide (kindSize (m : Int) ≤ left)) (OΨ _) (tg_val (eg_le (eg_var 7 rfl) (eg_var 4 rfl))) (fun h => ?_) (fun h => ?_)
      · have h' := of_decide_eq_true h
        refine x_seq (x_dput (Ψf := fun ks' => Ψ (ks', left)) (l := l) (i := 3) (Gs := Gs) (Hs := Hs) (OΨ _) rfl ?_ ?_ (ed_op0 (ed_dget2 (Pv := fun v => v = (valD ks (m : Int)).getD 0) (imp _) (ed_of (OΨ _) (eg_var 6 rfl)) (fun x hx => by subst hx; rfl)) (ed_of (OΨ _) eg_int)) (ed_of (OΨ _) (eg_var 6 rfl)) hz (fun x v hx hv => x_go ?_))
        · exact fun ks' σ G H h => imp _ _ _ _ h
        · exact fun ks' σ G H H' h h' => up _ _ _ _ _ _ h h'
        · obtain ⟨i, j, hi, hj, hv'⟩ := hv
          subst hx hi hj hv'
          refine x_asg (OΨ _) (by decide) (ed_of (OΨ _) (eg_sub (eg_var 4 rfl) (eg_var 7 rfl))) fun z hz3 => ?_
          subst hz3
          have tw := total_put kindSize ib.nd (m : Int)
          have tc := total_put (fun _ => 1) ib.nd (m : Int)
          obtain ⟨n1, n2⟩ := keys_put ib.nd (m : Int) ((valD ks (m : Int)).getD 0 + 1)
          have vp : 0 ≤ (valD ks (m : Int)).getD 0 := by
            by_cases hk : (m : Int) ∈ ks.map (·.1)
            · obtain ⟨v, e, hv⟩ := valD_mem hk
              rw [e]
              have := (ib.rg _ hv).2.2
              show 0 ≤ v
              have h3 : 1 ≤ v := this
              omega
            · rw [valD_none hk]
              exact Int.le_refl _
          refine x_nxC (b0 := (putD ks (m : Int) ((valD ks (m : Int)).getD 0 + 1), left)) (putD ks (m : Int) ((valD ks (m : Int)).getD 0 + 1), left - kindSize (m : Int)) (fun σ G H h => up _ _ _ _ _ _ h (imp (putD ks (m : Int) ((valD ks (m : Int)).getD 0 + 1), left) _ _ _ h)) rfl ⟨.inr rfl, .inr rfl, .inr rfl, .inr rfl, .inr rfl, .inl rfl, .inl rfl, .inl rfl, trivial⟩ ⟨⟨n1, fun p hp => ?_, ?_, ?_⟩, ?_⟩
          · rcases n2 p hp with rfl | h4
            · exact ⟨by show 0 ≤ (m : Int); omega, by show (m : Int) < 8; omega, by show 1 ≤ (valD ks (m : Int)).getD 0 + 1; omega⟩
            · exact ib.rg p h4
          · rw [tc]
            have := ib.cn
            omega
          · rw [tw]
            omega
          · show left - kindSize (m : Int) = most - total kindSize (putD ks (m : Int) ((valD ks (m : Int)).getD 0 + 1))
            rw [tw]
            omega
      · exact x_next (x_nx (ks, left) rfl ⟨.inr rfl, .inr rfl, .inr rfl, .inr rfl, .inr rfl, .inl rfl, .inl rfl, .inl rfl, trivial⟩ ⟨⟨ib.nd, ib.rg, by show total (fun _ => 1) ks ≤ _; have := ib.cn; omega, ib.wt⟩, hl⟩)
    · obtain ⟨ks, left⟩ := b
      obtain ⟨ib, hl⟩ := ib
      have ib3 : KOk most 3 ks := ⟨ib.nd, ib.rg, by
        have h1 : total (fun _ => 1) ks ≤ _ := ib.cn
        rw [upto_len] at h1
        have : P__law_draw 3 _ := ⟨d0, d1⟩
        omega, ib.wt⟩
      exact x_go (x_retKinds (Ps := P__law_kinds most) k rfl (fun h => ⟨ib3, h⟩) ⟨⟨by decide, by decide, by decide, by
        have e : total kindSize [(0, 1)] = 1 := by decide
        rw [e]
        exact c⟩, by decide⟩)
end
end TW
set_option Elab.async false
set_option linter.all false
set_option maxRecDepth 100000
set_option maxHeartbeats 4000000
namespace TW
open PySem PySem.Spec PyProof.Rows L2
abbrev ITab := List (List Int)
def kindAt (a : Int) : Kind := (m__law_known[a.toNat]?).getD ([], 0, 0, 0)
def placeKind (found : List ITab) (a : Int) : List ITab := (found.zip (kindAt a).1).map fun p => beside0 p.1 p.2
def placeMany (found : List ITab) (a : Int) (n : Nat) : List ITab := (upto n).foldl (fun f _ => placeKind f a) found
def baseLetters (ks : Kd) (ys : List Int) : List ITab := ys.foldl (fun f a => placeMany f a ((valD ks a).getD 0).toNat) [[], []]
abbrev Shear := Int × Int × Int
def shear (ls : List ITab) (s : Shear) : List ITab := ls.map fun t => m__law_changed t s.1 s.2.1 s.2.2
def ShearOk (n : Nat) (s : Shear) : Prop := 0 ≤ s.1 ∧ s.1 < n ∧ 0 ≤ s.2.1 ∧ s.2.1 < n ∧ s.2.1 ≠ s.1 ∧ (s.2.2 = 1 ∨ s.2.2 = -1)
/-- a square table of numbers to b -/
def SqB (t : ITab) (n b : Nat) : Prop := t.length = n ∧ ∀ r ∈ t, r.length = n ∧ ∀ x ∈ r, x.natAbs ≤ b
theorem SqB.mono {t : ITab} {n b c : Nat} (h : SqB t n b) (hb : b ≤ c) : SqB t n c := ⟨h.1, fun r hr => ⟨(h.2 r hr).1, fun x hx => Nat.le_trans ((h.2 r hr).2 x hx) hb⟩⟩
theorem beside_sq {t o : ITab} {n m b : Nat} (h : SqB t n b) (k : SqB o m b) : SqB (beside0 t o) (n + m) b := by
  unfold beside0
  refine ⟨by rw [List.length_append, List.length_map, List.length_map, h.1, k.1], fun r hr => ?_⟩
  rcases List.mem_append.mp hr with h1 | h1
  · obtain ⟨q, hq, rfl⟩ := List.mem_map.mp h1
    refine ⟨by rw [List.length_append, List.length_replicate, (h.2 q hq).1, k.1], fun x hx => ?_⟩
    rcases List.mem_append.mp hx with h2 | h2
    · exact (h.2 q hq).2 x h2
    · rw [(List.mem_replicate.mp h2).2]
      exact Nat.zero_le _
  · obtain ⟨q, hq, rfl⟩ := List.mem_map.mp h1
    refine ⟨by rw [List.length_append, List.length_replicate, (k.2 q hq).1, h.1], fun x hx => ?_⟩
    rcases List.mem_append.mp hx with h2 | h2
    · rw [(List.mem_replicate.mp h2).2]
      exact Nat.zero_le _
    · exact (k.2 q hq).2 x h2
theorem atL_mem {α : Type} {t : List (List α)} {i : Int} (h : inR t i) : atL t i ∈ t := by
  unfold atL
  rw [List.getElem?_eq_getElem h.2]
  exact List.getElem_mem _
theorem at0_mem {r : List Int} {i : Int} (h : inR r i) : at0 r i ∈ r := by
  unfold at0
  rw [List.getElem?_eq_getElem h.2]
  exact List.getElem_mem _
theorem much_le {m x : Int} {b : Nat} (hm : m = 1 ∨ m = -1) (h : x.natAbs ≤ b) : (m * x).natAbs ≤ b := by
  rcases hm with rfl | rfl
  · rw [Int.one_mul]; exact h
  · rw [Int.neg_mul, Int.one_mul, Int.natAbs_neg]; exact h
theorem rowAdd_sq {t : ITab} {n b : Nat} {one other much : Int} (h : SqB t n b) (s : ShearOk n (one, other, much)) : SqB (rowAdd t one other much) n (2 * b) := by
  obtain ⟨s1, s2, s3, s4, s5, s6⟩ := s
  simp only at s1 s2 s3 s4 s5 s6
  have i1 : inR t one := ⟨s1, by rw [h.1]; omega⟩
  have i2 : inR t other := ⟨s3, by rw [h.1]; omega⟩
  unfold rowAdd
  refine ⟨by rw [List.length_set, h.1], fun r hr => ?_⟩
  rcases List.mem_or_eq_of_mem_set hr with h1 | rfl
  · exact ⟨(h.2 r h1).1, fun x hx => by have := (h.2 r h1).2 x hx; omega⟩
  · have m1 := h.2 _ (atL_mem i1)
    have m2 := h.2 _ (atL_mem i2)
    refine ⟨by rw [List.length_map, List.length_zip, m1.1, m2.1, Nat.min_self], fun x hx => ?_⟩
    obtain ⟨p, hp, rfl⟩ := List.mem_map.mp hx
    have hz := List.of_mem_zip hp
    have := m1.2 _ hz.1
    have := much_le s6 (m2.2 _ hz.2)
    omega
theorem colSub_le {r : List Int} {n b : Nat} {one other much : Int} (hl : r.length = n) (hb : ∀ x ∈ r, x.natAbs ≤ b) (h1 : 0 ≤ one) (h2 : one < n) (hm : much = 1 ∨ much = -1) : (colSub r one other much).length = n ∧ ∀ x ∈ colSub r one other much, x.natAbs ≤ 2 * b := by
  unfold colSub
  refine ⟨by rw [List.length_map, upto_len, hl], fun x hx => ?_⟩
  obtain ⟨a, ha, rfl⟩ := List.mem_map.mp hx
  have ar := upto_mem ha
  have ia : inR r a := ⟨ar.1, by omega⟩
  have io : inR r one := ⟨h1, by omega⟩
  have := hb _ (at0_mem ia)
  have := much_le hm (hb _ (at0_mem io))
  split <;> omega
theorem changed_sq {t : ITab} {n b : Nat} {s : Shear} (h : SqB t n b) (hs : ShearOk n s) : SqB (m__law_changed t s.1 s.2.1 s.2.2) n (4 * b) := by
  have h1 := rowAdd_sq (one := s.1) (other := s.2.1) (much := s.2.2) h hs
  unfold m__law_changed
  refine ⟨by rw [List.length_map, h1.1], fun r hr => ?_⟩
  obtain ⟨q, hq, rfl⟩ := List.mem_map.mp hr
  have := colSub_le (other := s.2.1) (h1.2 q hq).1 (h1.2 q hq).2 hs.1 hs.2.1 hs.2.2.2.2.2
  exact ⟨this.1, fun x hx => by have := this.2 x hx; omega⟩
theorem kinds_ok : ∀ m : Nat, m < 8 → (kindAt (m : Int)).1.length = 2 ∧ ∃ z, z ≤ 2 ∧ ∀ t ∈ (kindAt (m : Int)).1, SqB t z 3 := by
  intro m hm
  have h : ∀ m : Nat, m < 8 → (kindAt (m : Int)).1.length = 2 ∧ ((kindAt (m : Int)).1.all fun t => t.all fun r => r.length == t.length && t.length == (atL (kindAt (m : Int)).1 0).length && decide (t.length ≤ 2) && r.all fun x => decide (x.natAbs ≤ 3)) = true ∧ ((kindAt (m : Int)).1.all fun t => t.length == (atL (kindAt (m : Int)).1 0).length) = true ∧ (atL (kindAt (m : Int)).1 0).length ≤ 2 := by decide
  obtain ⟨h1, h2, h3, h4⟩ := h m hm
  refine ⟨h1, (atL (kindAt (m : Int)).1 0).length, h4, fun t ht => ?_⟩
  have a1 := List.all_eq_true.mp h2 t ht
  have a2 := List.all_eq_true.mp h3 t ht
  refine ⟨by simpa using a2, fun r hr => ?_⟩
  have b1 := List.all_eq_true.mp a1 r hr
  simp only [Bool.and_eq_true, beq_iff_eq, decide_eq_true_eq, List.all_eq_true] at b1
  exact ⟨b1.1.1.1.trans b1.1.1.2, b1.2⟩
/-- two tables, square, of one size -/
def TwoSq (f : List ITab) (n b : Nat) : Prop := f.length = 2 ∧ ∀ t ∈ f, SqB t n b
theorem place_sq {f : List ITab} {n : Nat} {a : Int} (h : TwoSq f n 3) (a0 : 0 ≤ a) (a1 : a < 8) : ∃ z, z ≤ n + 2 ∧ TwoSq (placeKind f a) z 3 := by
  obtain ⟨m, rfl⟩ := Int.eq_ofNat_of_zero_le a0
  obtain ⟨k1, z, kz, k2⟩ := kinds_ok m (by omega)
  refine ⟨n + z, by omega, ?_, fun t ht => ?_⟩
  · unfold placeKind
    rw [List.length_map, List.length_zip, h.1, k1]
    rfl
  · unfold placeKind at ht
    obtain ⟨p, hp, rfl⟩ := List.mem_map.mp ht
    have hz := List.of_mem_zip hp
    exact beside_sq (h.2 _ hz.1) (k2 _ hz.2)
theorem shear_sq {f : List ITab} {n b : Nat} {s : Shear} (h : TwoSq f n b) (hs : ShearOk n s) : TwoSq (shear f s) n (4 * b) := by
  refine ⟨by unfold shear; rw [List.length_map, h.1], fun t ht => ?_⟩
  unfold shear at ht
  obtain ⟨q, hq, rfl⟩ := List.mem_map.mp ht
  exact changed_sq (h.2 q hq) hs
abbrev A__law_letters (ks : Kd) : Prop := KOk 4 3 ks
def sizeOf0 (f : List ITab) : Nat := (atL f 0).length
def P__law_letters (ks : Kd) (ls : List ITab) : Prop := ∃ (ys : List Int) (ss : List Shear), ys.Perm (ks.map (·.1)) ∧ ys.Pairwise (· ≤ ·) ∧ ss.length ≤ 2 ∧ (∀ s ∈ ss, ShearOk (sizeOf0 (baseLetters ks ys)) s) ∧ ls = ss.foldl shear (baseLetters ks ys)
section
variable {P : Program} {w : World} {K : PySem.W.Frag} {mg : Str → Option Value} {base : Heap}
abbrev s__law_letters : Stmt := (topS 122)
abbrev N__law_letters : List Str := ["_law_pot_here", "_law_kinds_here", "_law_known_here", "_law_found", "_law_at", "_law_turn", "_law_size", "_law_one", "_law_other", "_law_much", "_law_table", "_law_near", "_law_far"]
theorem sc__law_letters : FnScope N__law_letters ["_law_pot_here", "_law_kinds_here"] (defScope s__law_letters) := ⟨rfl, rfl, rfl, by decide +kernel, rfl, by decide +kernel, by decide +kernel⟩
abbrev T__law_letters (P : Program) (w : World) (K : PySem.W.Frag) (mg : Str → Option Value) (base : Heap) : Prop := Ok P w K mg base "_law_letters" 43 ["_law_pot_here", "_law_kinds_here"] (spPotD A__law_letters (rL (rL (rL rI))) P__law_letters)
theorem ok__law_letters (T : Tx P K mg base) (d : Df K mg "_law_letters" s__law_letters) (O__law_known : T__law_known P w K mg base) (O__law_beside : T__law_beside P w K mg base) (O__law_draw : T__law_draw P w K mg base) (O__law_pick : T__law_pick P w K mg base) (O__law_changed : T__law_changed P w K mg base) : T__law_letters P w K mg base := by
  refine mkOk d sc__law_letters (fun _ _ _ _ _ _ us hl => match us, hl with | [_, _], _ => rfl) lenPotD fun f cdv A outer s H E hr => ?_
  have nd := sc__law_letters.nd
  refine ⟨_, (pss_cons (ps_par (i := 2) (j := 3) rfl nd rfl rfl (by decide) rfl rfl (pa_cons (pe_callO0 O__law_known (hr.mono (by decide)) (by rfl)) (pa_cons (pe_lst (pa_cons (pe_lst pa_nil) (pa_cons (pe_lst pa_nil) pa_nil))) pa_nil)) (by rfl))
      (pss_cons (ps_for PassesOwn.never rfl (pi_listK (K := K) rfl (pe_callB (call_sortedDI rfl) (by rfl) T.sorted bt_sorted (pa_cons (pv 1) pa_nil))) (pg_name (i := 4) nd rfl (Or.inl rfl)) (pss_one (ps_for PassesOwn.never rfl (pi_range1 (by rfl) T.range (pa_cons (pe_dget hr.lines1 (pv 1) (pv 4) (fun _ _ => rfl)) pa_nil)) (pg_name (i := 5) nd rfl (Or.inl rfl)) (pss_one (ps_setLc (own := [("_law_near", 11), ("_law_far", 12)]) (tt := tYes) (i := 3) rfl nd rfl rfl (sw_true rfl rfl rfl (by kernel_rfl)) (pi_zipK (K := K) rfl (by rfl) T.zip (pa_cons (pv 3) (pa_cons (pe_ix (ix_tupK (K := K) rfl) (pe_ix (ix_listK (K := K) rfl) (pv 2) (pv 4) (fun _ _ => rfl)) pe_int (fun _ _ => rfl)) pa_nil))) (blkOk_by (by kernel_rfl)) (fun _ _ _ _ _ => (pg_tupK (K := K) (n := 2) rfl rfl (pgs_cons (pg_name (i := 11) nd rfl (by first | exact Or.inl rfl | exact Or.inr rfl)) (pgs_cons (pg_name (i := 12) nd rfl (by first | exact Or.inl rfl | exact Or.inr rfl)) pgs_nil)))) (fun _ _ _ _ _ => pts_nil) (fun _ _ _ _ _ => (pe_callO O__law_beside (hr.mono (by decide)) (by rfl) (pa_cons (pv 11) (pa_cons (pv 12) pa_nil)))))))))
      (pss_cons (ps_set (i := 6) nd rfl (Or.inl rfl) (pe_callB (call_lenK (K := K) rfl) (by rfl) T.len bt_len (pa_cons (pe_ix (ix_listK (K := K) rfl) (pv 3) pe_int (fun _ _ => rfl)) pa_nil)))
      (pss_cons (ps_for PassesOwn.never rfl (pi_range1 (by rfl) T.range (pa_cons (pe_ifExp (pt_cmpR op_gt (pv 6) pe_int (nomark _)) (pe_callO O__law_draw (hr.mono (by decide)) (by rfl) (pa_cons (pv 0) (pa_cons pe_int pa_nil))) pe_int) pa_nil)) (pg_name (i := 5) nd rfl (Or.inl rfl)) (pss_cons (ps_set (i := 7) nd rfl (Or.inr rfl) (pe_callO O__law_draw (hr.mono (by decide)) (by rfl) (pa_cons (pv 0) (pa_cons (pv 6) pa_nil))))
      (pss_cons (ps_asg (pe_tup (pa_cons (pe_op op_mod (pe_callTy call_int1 (by rfl) T.int bt_int (pa_cons (pe_op op_add (pe_op op_add (pv 7) pe_int) (pe_callO O__law_draw (hr.mono (by decide)) (by rfl) (pa_cons (pv 0) (pa_cons (pe_op op_sub (pv 6) pe_int) pa_nil)))) pa_nil)) (pv 6)) (pa_cons (pe_callO O__law_pick (hr.mono (by decide)) (by rfl) (pa_cons (pv 0) (pa_cons (pe_lst (pa_cons pe_int (pa_cons (pe_un un_neg pe_int) pa_nil))) pa_nil))) pa_nil))) (pg_tupK (K := K) (n := 2) rfl rfl (pgs_cons (pg_name (i := 8) nd rfl (Or.inr rfl)) (pgs_cons (pg_name (i := 9) nd rfl (Or.inr rfl)) pgs_nil))))
      (pss_one (ps_setLc (own := [("_law_table", 10)]) (g := gName 10) (tt := tYes) (i := 3) rfl nd rfl rfl (sw_true rfl rfl rfl (by kernel_rfl)) (pi_listK (K := K) rfl (pv 3)) (blkOk_by (by kernel_rfl)) (fun _ _ _ _ _ => (pg_name (i := 10) nd rfl (by first | exact Or.inl rfl | exact Or.inr rfl))) (fun _ _ _ _ _ => pts_nil) (fun _ _ _ _ _ => (pe_callO O__law_changed (hr.mono (by decide)) (by rfl) (pa_cons (pv 10) (pa_cons (pv 7) (pa_cons (pv 8) (pa_cons (pv 9) pa_nil)))))))))))
      (pss_one (ps_ret (pv 3))))))), finPotD (n := 11) rfl ?_⟩
  intro l ks Gs Hs Q c k
  have O := phiD l 1 false Gs Hs ks
  have kl : ks.length ≤ 3 := by
    have h1 := total_len fun p hp => (c.rg p hp).2.2
    have h2 := c.cn
    omega
  have cnt : ∀ p ∈ ks, p.2 ≤ 3 := by
    intro p hp
    have h2 := c.cn
    have h3 := fun q hq => (c.rg q hq).2.2
    have : p.2 ≤ total (fun _ => 1) ks := by
      clear kl h2
      generalize ks = l at hp h3
      induction l with
      | nil => cases hp
      | cons q l ih =>
        have h4 := total_len (ks := l) fun x hx => h3 x (List.mem_cons_of_mem _ hx)
        unfold total at *
        rw [List.map_cons, List.sum_cons]
        have h5 := h3 q (List.mem_cons_self ..)
        simp only [Int.mul_one] at *
        rcases List.mem_cons.mp hp with rfl | h6
        · omega
        · have := ih h6 fun x hx => h3 x (List.mem_cons_of_mem _ hx)
          omega
    omega
  refine x_seq (x_par O (by decide) (by decide) (ed_of O eg_call0) (ed_of O (en_lst (er_cons (en_nil (rL rI)).eg (er_cons (en_nil (rL rI)).eg er_nil)) (show 2 < big by decide)).eg) fun x y hx hy => x_go ?_)
  subst hx hy
  have rg : ∀ a ∈ ks.map (·.1), ∃ v, valD ks a = some v ∧ 1 ≤ v ∧ v ≤ 3 ∧ 0 ≤ a ∧ a < 8 := fun a ha => by
    obtain ⟨v, e, hv⟩ := valD_mem ha
    exact ⟨v, e, (c.rg _ hv).2.2, cnt _ hv, (c.rg _ hv).1, (c.rg _ hv).2.1⟩
  have known : ∀ a, 0 ≤ a → a < 8 → L2.atI m__law_known a = some (kindAt a) := fun a h0 h1 => by
    obtain ⟨m, rfl⟩ := Int.eq_ofNat_of_zero_le h0
    have hm : m < m__law_known.length := by show m < 8; omega
    refine atI_of ?_
    unfold kindAt
    rw [Int.toNat_natCast, List.getElem?_eq_getElem hm]
    rfl
  refine x_seq (x_for (B := List ITab) (fun _ => PhiD l 1 false Gs Hs ks) (fun f => [.no, .no, .im (rL rKn) m__law_known, .im (rL (rL (rL rI))) f, .no, .no, .no, .no, .no, .no, .no, .no, .no]) (fun _ => O) (by decide) [[], []] ⟨.inr rfl, .inr rfl, .inr rfl, .inr rfl, .inl rfl, .inl rfl, .inl rfl, .inl rfl, .inl rfl, .inl rfl, .inl rfl, .inl rfl, .inl rfl, trivial⟩
    (ix_list' (ed_sorted O (fun _ _ _ h => h) (by omega))) (fun ys hys => ⟨fun n f => f = (ys.take n).foldl (fun f a => placeMany f a ((valD ks a).getD 0).toNat) [[], []] ∧ ∃ z, z ≤ 6 * n ∧ TwoSq f z 3, ⟨rfl, 0, Nat.le_refl _, rfl, (fun t ht => by
      simp at ht
      subst ht
      exact ⟨rfl, (fun r hr => by cases hr)⟩)⟩, fun n a f Ψ OΨ imp up ib ha => ?_, fun f ib => ?_⟩))
  · obtain ⟨ef, z, hz, tz⟩ := ib
    have ma : a ∈ ks.map (·.1) := (hys.1.mem_iff).mp (mem_of_at ha)
    obtain ⟨v, ev, v1, v3, a0, a1⟩ := rg a ma
    have ny : n < 3 := by
      have h1 := (List.getElem?_eq_some_iff.mp ha).1
      have h2 := hys.1.length_eq
      rw [List.length_map] at h2
      omega
    obtain ⟨m, rfl⟩ := Int.eq_ofNat_of_zero_le a0
    obtain ⟨kl2, zk, hzk, kq⟩ := kinds_ok m (by omega)
    refine x_for (B := List ITab) (fun _ => Ψ f) (fun g => [.no, .no, .im (rL rKn) m__law_known, .im (rL (rL (rL rI))) g, .im rI (m : Int), .no, .no, .no, .no, .no, .no, .no, .no]) (fun _ => OΨ f) (by decide) f ⟨.inr rfl, .inr rfl, .inr rfl, .inr rfl, .inr rfl, .inl rfl, .inl rfl, .inl rfl, .inl rfl, .inl rfl, .inl rfl, .inl rfl, .inl rfl, trivial⟩
      (ix_range' (ed_dget (Pv := fun x => x = v) (imp f) (ed_of (OΨ f) (eg_var 4 rfl)) (fun x hx => by subst hx; exact ⟨v, ev, rfl⟩)) (fun x hx => by subst hx; omega)) (fun xs hxs => ?_)
    obtain ⟨x, rfl, rfl⟩ := hxs
    refine ⟨fun i g => g = ((upto x.toNat).take i).foldl (fun f _ => placeKind f (m : Int)) f ∧ ∃ y, y ≤ z + 2 * i ∧ TwoSq g y 3, ⟨rfl, z, by omega, tz⟩, fun i b g Ψ2 OΨ2 imp2 up2 ig hb => ?_, fun g ig => ?_⟩
    · obtain ⟨eg, y, hy, ty⟩ := ig
      have hi := (upto_at hb).2
      refine x_asg (OΨ2 g) (by decide) (ed_of (OΨ2 g) (en_lc (f := fun p : ITab × ITab => beside0 p.1 p.2) (ig_zip (eg_var 3 rfl) (eg_p41 (eg_ix (eg_var 2 rfl) (eg_var 4 rfl) (known _ a0 a1)) eg_int)) (by decide) (fun j p hp => ⟨_, gt_pair (gt_name (by decide)) (gt_name (by decide)), eg_call2 (eg_var 11 rfl) (eg_var 12 rfl) ?_⟩)).eg) fun w hw => ?_
      · have hpz := List.of_mem_zip (mem_of_at hp)
        have s1 := ty.2 _ hpz.1
        have s2 := kq _ hpz.2
        exact ⟨by rw [s1.1]; omega, by rw [s2.1]; omega, fun r hr => by rw [(s1.2 r hr).1]; omega, fun r hr => by rw [(s2.2 r hr).1]; omega⟩
      · subst hw
        obtain ⟨y2, hy2, ty2⟩ := place_sq (a := (m : Int)) ty a0 a1
        refine x_nxC (b0 := g) (placeKind g (m : Int)) (fun σ G H h => up2 _ _ _ _ _ _ h (imp2 _ _ _ _ h)) rfl ⟨.inr rfl, .inr rfl, .inr rfl, .inr rfl, .inr rfl, .inl rfl, .inl rfl, .inl rfl, .inl rfl, .inl rfl, .inl rfl, .inl rfl, .inl rfl, trivial⟩ ⟨?_, y2, by omega, ty2⟩
        rw [take_succ' hb, List.foldl_append, ← eg]
        rfl
    · obtain ⟨eg, y, hy, ty⟩ := ig
      rw [List.take_length] at eg
      rw [upto_len] at hy
      refine x_nxC (b0 := f) g (fun σ G H h => up _ _ _ _ _ _ h (imp _ _ _ _ h)) rfl ⟨.inr rfl, .inr rfl, .inr rfl, .inr rfl, .inl rfl, .inl rfl, .inl rfl, .inl rfl, .inl rfl, .inl rfl, .inl rfl, .inl rfl, .inl rfl, trivial⟩ ⟨?_, y, by omega, ty⟩
      rw [take_succ' ha, List.foldl_append, ← ef, eg]
      show _ = placeMany f (m : Int) ((valD ks (m : Int)).getD 0).toNat
      rw [ev]
      rfl
  · obtain ⟨ef, z, hz, tz⟩ := ib
    rw [List.take_length] at ef
    have ly : ys.length ≤ 3 := by
      have h2 := hys.1.length_eq
      rw [List.length_map] at h2
      omega
    have eb : f = baseLetters ks ys := ef
    have h2 : 0 < f.length := by rw [tz.1]; decide
    have at0' : L2.atI f 0 = some (atL f 0) := atL_at (by decide) h2
    have sz : (atL f 0).length = z := (tz.2 _ (atL_mem (i := 0) ⟨by decide, h2⟩)).1
    refine x_go (x_seq (x_asg O (by decide) (ed_of O ((eg_len (eg_ix (eg_var 3 rfl) eg_int at0')).cast (x' := (z : Int)) (by rw [sz]))) fun w hw => x_go ?_))
    subst hw
    refine x_seq (x_for (B := List Shear) (fun _ => PhiD l 1 false Gs Hs ks) (fun ss => [.no, .no, .im (rL rKn) m__law_known, .im (rL (rL (rL rI))) (ss.foldl shear f), .no, .no, .im rI (z : Int), .no, .no, .no, .no, .no, .no]) (fun _ => O) (by decide) [] ⟨.inr rfl, .inr rfl, .inr rfl, .inr rfl, .inl rfl, .inl rfl, .inr rfl, .inl rfl, .inl rfl, .inl rfl, .inl rfl, .inl rfl, .inl rfl, trivial⟩
      (ix_range' (Ps := fun n => (1 < (z : Int) ∧ 0 ≤ n ∧ n < 3) ∨ n = 0) (ed_if (Pt := fun b => b = decide (1 < (z : Int))) (ed_of O (eg_gt (eg_var 6 rfl) eg_int)) (fun h => ed_mono (ed_draw O rfl (ed_of O eg_int) (fun y hy => by subst hy; exact ⟨by decide, by decide⟩)) (fun x ⟨y, hy, d0, d1⟩ => by subst hy; exact ⟨of_decide_eq_true h.symm, d0, d1⟩)) (fun h => ed_of O eg_int)) (fun n hn => by omega)) (fun xs hxs => ?_))
    obtain ⟨n, hn, rfl⟩ := hxs
    have inv : ∀ ss : List Shear, ss.length ≤ 2 → (∀ s ∈ ss, ShearOk z s) → TwoSq (ss.foldl shear f) z (3 * 4 ^ ss.length) := by
      intro ss
      have gen : ∀ (ss : List Shear) (g : List ITab) (b : Nat), TwoSq g z b → (∀ s ∈ ss, ShearOk z s) → TwoSq (ss.foldl shear g) z (b * 4 ^ ss.length) := by
        intro ss
        induction ss with
        | nil => intro g b h _; simpa using h
        | cons s ss ih =>
          intro g b h hs
          have h3 := ih _ _ (shear_sq h (hs s (List.mem_cons_self ..))) fun x hx => hs x (List.mem_cons_of_mem _ hx)
          rw [List.length_cons, Nat.pow_succ, Nat.mul_comm (4 ^ ss.length) 4, ← Nat.mul_assoc, Nat.mul_comm b 4]
          exact h3
      intro _ hs
      exact gen ss f 3 tz hs
    refine ⟨fun i ss => ss.length = i ∧ ∀ s ∈ ss, ShearOk z s, ⟨rfl, (fun s hs => by cases hs)⟩, fun i t ss Ψ OΨ imp up is ht => ?_, fun ss is => ?_⟩
    · obtain ⟨li, hs⟩ := is
      have hi := (upto_at ht).2
      have z1 : 1 < (z : Int) ∧ n < 3 := by
        rcases hn with h | h
        · exact ⟨h.1, h.2.2⟩
        · omega
      have hss : ss.length ≤ 1 := by omega
      have cur := inv ss (by omega) hs
      refine x_seq (x_asg (OΨ _) (by decide) (ed_draw (OΨ _) rfl (ed_of (OΨ _) (eg_var 6 rfl)) (fun y hy => by subst hy; exact ⟨by omega, by omega⟩)) fun one hone => x_go ?_)
      obtain ⟨_, rfl, o0, o1⟩ := hone
      refine x_seq (x_tup (OΨ _) (by decide) (by decide) (ed_op (C := fun _ j => 0 < j) (ed_int (ed_op0 (ed_of (OΨ _) (eg_add (eg_var 7 rfl) eg_int)) (ed_draw (OΨ _) rfl (ed_of (OΨ _) (eg_sub (eg_var 6 rfl) eg_int)) (fun y hy => by subst hy; exact ⟨by omega, by omega⟩)))) (ed_of (OΨ _) (eg_var 6 rfl)) (fun i j _ hj => by subst hj; omega)) (ed_draw (OΨ _) rfl (ed_of (OΨ _) (en_lst (er_cons eg_int (er_cons (eg_neg eg_int) er_nil)) (show 2 < big by decide)).eg) (fun y hy => by subst hy; exact ⟨by simp, by simp⟩)) fun other much hother hmuch => x_go ?_)
      obtain ⟨i2, j2, ⟨i3, j3, rfl, ⟨_, rfl, d0, d1⟩, rfl⟩, rfl, rfl⟩ := hother
      obtain ⟨_, rfl, hm⟩ := hmuch
      have hm2 : much = 1 ∨ much = -1 := by simpa using hm
      have so : ShearOk z (one, (one + 1 + j3) % (z : Int), much) := by
        refine ⟨o0, o1, Int.emod_nonneg _ (by omega), Int.emod_lt_of_pos _ (by omega), ?_, hm2⟩
        show (one + 1 + j3) % (z : Int) ≠ one
        intro e
        rcases Int.lt_or_le (one + 1 + j3) (z : Int) with h | h
        · rw [Int.emod_eq_of_lt (by omega) h] at e
          omega
        · have e2 : (one + 1 + j3) % (z : Int) = one + 1 + j3 - (z : Int) := by
            rw [← Int.sub_emod_right, Int.emod_eq_of_lt (by omega) (by omega)]
          rw [e2] at e
          omega
      have e2 : 0 ≤ (one + 1 + j3) % (z : Int) := so.2.2.1
      have e3 : (one + 1 + j3) % (z : Int) < (z : Int) := so.2.2.2.1
      have bnd : 3 * 4 ^ ss.length ≤ 12 := by
        have : 4 ^ ss.length ≤ 4 ^ 1 := Nat.pow_le_pow_right (by decide) hss
        omega
      refine x_asg (OΨ _) (by decide) (ed_of (OΨ _) (en_lc (f := fun t : ITab => m__law_changed t one ((one + 1 + j3) % (z : Int)) much) (ig_list (eg_var 3 rfl)) (by decide) (fun q t2 ht2 => ⟨_, gt_name (by decide), eg_call4 (eg_var 10 rfl) (eg_var 7 rfl) (eg_var 8 rfl) (eg_var 9 rfl) ?_⟩)).eg) fun w hw => ?_
      · have tq := (cur.2 _ (mem_of_at ht2)).mono bnd
        have rq := rowAdd_sq tq so
        have sm : ∀ x : Int, x.natAbs ≤ 24 → Sm x := fun x hx => sm_small (by omega)
        refine ⟨by rw [tq.1]; omega, ⟨o0, by rw [tq.1]; omega⟩, ⟨e2, by rw [tq.1]; omega⟩, sm _ (by rcases hm2 with h | h <;> rw [h] <;> decide), fun r hr => ⟨by rw [(tq.2 r hr).1, tq.1], fun x hx => sm x (by have := (tq.2 r hr).2 x hx; omega)⟩, fun r hr x hx => sm x ((rq.2 r hr).2 x hx)⟩
      · subst hw
        refine x_nxC (b0 := ss) (ss ++ [(one, (one + 1 + j3) % (z : Int), much)]) (fun σ G H h => up _ _ _ _ _ _ h (imp _ _ _ _ h)) rfl ⟨.inr rfl, .inr rfl, .inr rfl, .inr ?_, .inl rfl, .inl rfl, .inr rfl, .inl rfl, .inl rfl, .inl rfl, .inl rfl, .inl rfl, .inl rfl, trivial⟩ ⟨by rw [List.length_append, li]; rfl, fun s hs2 => ?_⟩
        · rw [List.foldl_append]
          rfl
        · rcases List.mem_append.mp hs2 with h | h
          · exact hs s h
          · simp at h
            rw [h]
            exact so
    · obtain ⟨li, hs⟩ := is
      rw [upto_len] at li
      refine x_go (x_ret (Q := Q) (ed_of O (eg_var 3 rfl)) (fun x σ v G H hx p r => ?_) rfl)
      subst hx
      refine k _ v G H ⟨ys, ss, hys.1, hys.2, by omega, ?_, by rw [← eb]⟩ p.1.2.2.2 p.1.2.2.1 r
      intro s hs2
      rw [← eb]
      unfold sizeOf0
      rw [sz]
      exact hs s hs2
end
end TW
set_option Elab.async false
set_option linter.all false
set_option maxRecDepth 100000
set_option maxHeartbeats 4000000
/-! Promises that hold where no repr is under way (Around.guards = some []); the law's call. -/
namespace TW
open PySem PySem.Spec PyProof.Rows L2
structure FnG (P : Program) (w : World) (K : PySem.W.Frag) (mg : Str → Option Value) (base : Heap) (k : Nat) (f : Addr) (fd : FuncData) (ps : List Str) (sp : Sp) : Prop where
  len : ∀ vs H Q E, sp vs H Q E → vs.length = ps.length
  run : ∀ (A : Around) (outer : List Env) (s : Shared) (H : Hp) (args : Args) (us : List Value) (vs : List V) (Q : VK) (E : XK), A.guards = some [] → Room k A → Env0 P w K mg base A outer s H → BindsTo s fd args (ps.zip us) → Vals vs us → sp vs H Q E →
    codeAny (model P w) A (.call (.ref f) args) (CR CX0 outer P w H s Q E) s
section
variable {P : Program} {w : World} {K : PySem.W.Frag} {mg : Str → Option Value} {base : Heap}
/-- a def by its body -/
theorem fn_ofG {k : Nat} {f : Addr} {name qual : Str} {params : Arguments} {body : List Stmt} {scope : Scope} {dV kV doc pm cdv ct oc : Value} {an od : Option Addr} {osl : Array (Option Value)} {N ps : List Str} {sp : Sp}
    (lk : K.lookup f = some ⟨oc, od, .func (PySem.W.fnOf name qual params body scope dV kV doc pm an cdv ct), osl⟩) (hcd : PySem.W.codeIn K cdv qual = true) (sc : FnScope N ps scope) (len : ∀ vs H Q E, sp vs H Q E → vs.length = ps.length)
    (inside : ∀ (A : Around) (outer : List Env) (s : Shared) (H : Hp) (vs : List V) (Q : VK) (E : XK), A.guards = some [] → Room k (A.deeper (envOfC qual scope s.heap.objs.size f cdv)) → sp vs H Q E →
      ∃ t, PSs (cxOf CX0 P w K mg base N qual scope f cdv A outer s H E).nox body t ∧ t { nx := fun _ H' => Q .non H', rt := Q } (start N vs) H) :
    FnG P w K mg base (k + 1) f (PySem.W.fnOf name qual params body scope dV kV doc pm an cdv ct) ps sp := by
  refine ⟨len, fun A outer s H args us vs Q E gd room env binds rel promise => ?_⟩
  have keep := fun b o (e : base.get? b = some o) => (env.bs b o e).1
  have inK : K.In s.heap := env.mod.kin.keeps keep
  refine codeAny_call_function room.depth (inK _ _ lk) rfl sc.co sc.gen rfl (PySem.W.codeRec_of inK hcd) (binds _ _ _ _ ?_)
  refine wpAny_newFunctionEnv_cells sc.kind (fun y hy => ?_) fun ev ee s1 made => ?_
  · rcases sc.par y.1 (List.of_mem_zip (show (y.1, y.2) ∈ ps.zip us from hy)).1 with h | h
    · exact Or.inl h
    · exact Or.inr ⟨h, PySem.W.cellsFrom_some _ _ _ (Or.inl h)⟩
  · subst ee
    refine ⟨(env.mod.nolimit.keeps keep).keeps made.toInCall.keep, codeAny_func ?_⟩
    obtain ⟨t, walk, goal⟩ := inside A outer s H vs Q E gd (room.deeper _) promise
    have inv : Inv (cxOf CX0 P w K mg base N qual scope f cdv A outer s H E) [] (start N vs) H s1 := inv_start sc room.hd env (len _ _ _ _ promise) rel made
    refine wpAny_mono (walk.nox.run [] s1 (start N vs) H _ inv goal) (fun how s' ended => ?_) fun _ _ h => h
    cases how with
    | ret u =>
      obtain ⟨v, σ', H', I', rv, q⟩ := ended
      exact ⟨v, H', I'.os, I'.bare, I'.base, I'.hok, rv, q⟩
    | next =>
      obtain ⟨σ', H', I', q⟩ := ended
      exact ⟨V.non, H', I'.os, I'.bare, I'.base, I'.hok, rfl, q⟩
    | brk =>
      obtain ⟨_, _, _, h⟩ := ended
      exact h.elim
    | cont =>
      obtain ⟨_, _, _, h⟩ := ended
      exact h.elim
structure OkG (P : Program) (w : World) (K : PySem.W.Frag) (mg : Str → Option Value) (base : Heap) (x : Str) (k : Nat) (ps : List Str) (sp : Sp) : Prop where
  ex : ∃ f fd, mg x = some (.ref f) ∧ PySem.W.keepIn K (.ref f) = true ∧ Binds K fd ps [] ∧ FnG P w K mg base k f fd ps sp ∧ ∃ oc od osl, K.lookup f = some ⟨oc, od, .func fd, osl⟩
theorem mkOkG {x : Str} {st : Stmt} {N ps : List Str} {k : Nat} {sp : Sp} (d : Df K mg x st) (sc : FnScope N ps (defScope st))
    (bd : ∀ (kV doc pm : Value) (an : Option Addr) (cdv ct : Value) (us : List Value), us.length = ps.length → bindArgs (PySem.W.fnOf x x (defArgs st) (defBody st) (defScope st) .none kV doc pm an cdv ct) ⟨us, []⟩ = pure (ps.zip us))
    (len : ∀ vs H Q E, sp vs H Q E → vs.length = ps.length)
    (body : ∀ (f : Addr) (cdv : Value) (A : Around) (outer : List Env) (s : Shared) (H : Hp) (E : XK), A.guards = some [] → Room k (A.deeper (envOfC x (defScope st) s.heap.objs.size f cdv)) →
      ∃ t, PSs (cxOf CX0 P w K mg base N x (defScope st) f cdv A outer s H E).nox (defBody st) t ∧ ∀ (vs : List V) (H' : Hp) (Q : VK), sp vs H' Q E → t { nx := fun _ H' => Q .non H', rt := Q } (L2.start N vs) H') :
    OkG P w K mg base x (k + 1) ps sp := by
  obtain ⟨f, fd, F, hm⟩ := d.ex
  have hb := F.binds bd
  have kp := F.kp
  obtain ⟨oc, od, kV, doc, pm, an, cdv, ct, osl, rfl, lk, hcd⟩ := F.ex
  exact ⟨f, _, hm, kp, hb, fn_ofG lk hcd sc len fun A outer s H vs Q E gd hr h => by
    obtain ⟨t, h1, h2⟩ := body f cdv A outer s H E gd hr
    exact ⟨t, h1, h2 vs H Q h⟩, _, _, _, lk⟩
end
section
variable {X : Cx} {k : Nat} {f : Addr} {fd : FuncData} {ps : List Str} {sp : Sp}
theorem run_fnG {pins : List (Addr × Obj)} {σ : L2.St} {H : Hp} {s : Shared} {Q : VK} {us : List Value} {vs : List V} (F : FnG X.prog X.w X.K X.mg X.base k f fd ps sp) (gd : X.A.guards = some []) (hr : Room k X.A) (hb : Binds X.K fd ps [])
    (I : Inv X pins σ H s) (rel : Vals vs us) (h : sp vs H Q E0) : wpAny (model X.prog X.w) X.A (call (.ref f) us) (EP X pins σ Q) X.xe s := by
  have hl : us.length = ps.length := by rw [← rel.length]; exact F.len _ _ _ _ h
  have bs := hb s us I.kIn (by rw [List.append_nil]; exact hl)
  rw [List.append_nil] at bs
  refine wpAny_call (codeAny_mono (F.run X.A X.stack s H ⟨us, []⟩ us vs Q E0 gd hr I.env0 bs rel h) fun how s' ended => ?_)
  cases how with
  | error e => exact pass0 pins σ H s e s' I ended
  | ok fl =>
    cases fl with
    | ret u => exact I.after ended
    | next => exact ended.elim
    | brk => exact ended.elim
    | cont => exact ended.elim
theorem pe_callG {x : Str} {p pos : Pos} {e : Expr} {es : List Expr} {t : TA} (O : OkG X.prog X.w X.K X.mg X.base x k ps sp) (gd : X.A.guards = some []) (hr : Room k X.A) (hg : Gl X x) (ha : PA X (e :: es) t) (hdb : (x == ("__debug__" : Str)) = false := by decide)
    (he : starEach (e :: es) X.env = (false, eval e X.env) :: starEach es X.env := by rfl) (hpl : (backTo pos (starEach es X.env)).any (·.1) = false := by rfl) : PE X (.Call (.Name x p) (e :: es) [] pos) (tCall sp [] E0 t) := by
  obtain ⟨f, fd, hm, hk, hb, F, _⟩ := O.ex
  refine ⟨fun pins s σ H Q I h => wpAny_Call_Name_kw (ld_glob I hg hm ?_ hdb)⟩
  refine PySem.W.callWith_K (h₀ := X.base) I.ok.mod.kin hk (thn (ha.run pos pins s σ H _ I h) fun us s1 ⟨vs, H1, I1, r, q⟩ => ⟨I1.kIn, ?_⟩) he hpl
  have q' : sp vs H1 Q E0 := by
    have q2 : sp (vs ++ []) H1 Q E0 := q
    rw [List.append_nil] at q2
    exact q2
  exact run_fnG F gd hr hb I1 r q'
end
/-! the law's own call, from the heap behind the top -/
section
variable {P : Program} {w : World} {K : PySem.W.Frag} {mg mb : Str → Option Value} {k : Nat} {fa a : Addr} {fd : FuncData} {x : Str} {sp : Sp} {s : Shared} {vs : List Value} {ns : List Int}
theorem law_callG (inK : K.In s.heap) (glob : s.heap.Ns mainGlobals mg) (blt : s.heap.Ns builtinsNs mb) (boot : ∀ y : Str, y ≠ "__name__" → mb y = bootBuiltins y) (lim : s.heap.NoLimit) (gens : s.gens = #[])
    (at_ : s.heap.get? a = some { cls := .type "list", data := .seq vs.toArray }) (are : IntsAre vs ns) (short : ns.length ≤ sizeLine) (room : Room k callerA)
    (F : ∀ base : Heap, K.In base → base.Ns mainGlobals mg → FnG P w K mg base k fa fd [x] sp) (binds : ∀ (s : Shared) (u : Value), BindsTo s fd ⟨[u], []⟩ [(x, u)])
    (promise : ∀ H : Hp, Only H → SqL K H a (ns.map V.int) → sp [.ref a] H (fun v _ => v = .bl true) fun _ _ _ => False) :
    codeAny (model P w) callerA (.call (.ref fa) ⟨[.ref a], []⟩) (fun r z => r = .ok (.ret (.bool true)) ∧ OldK s.heap z.heap ∧ z.os = s.os ∧ AllBare z.gens) s := by
  have rel := vals_ints are
  -- H tracks the script or nothing
  have main : ∀ H : Hp, Only H → SqL K H a (ns.map V.int) → HOk P w H s.heap → (∀ b u, H b = some u → b = a ∧ K.lookup a = none) →
      codeAny (model P w) callerA (.call (.ref fa) ⟨[.ref a], []⟩) (fun r z => r = .ok (.ret (.bool true)) ∧ OldK s.heap z.heap ∧ z.os = s.os ∧ AllBare z.gens) s := fun H only seq ok alone => by
    have free : ∀ {b : Addr} {o : Obj}, s.heap.get? b = some o → b ≠ a → H b = none := fun {b o} _ nb => by
      cases hb : H b with
      | none => rfl
      | some u => exact absurd (alone b u hb).1 nb
    have there : ∀ {b : Addr} {o : Obj} {es : Array DictEntry} {ep : Nat}, s.heap.get? b = some o → o.data = .dict es ep → (hidT s.heap H).get? b = some o := fun {b o es ep} e d => hidT_get e (free e fun z => by
      rw [z, at_] at e
      cases e
      cases d)
    have spaces : ∀ {b : Addr} {m : Str → Option Value}, s.heap.Ns b m → (hidT s.heap H).Ns b m := fun {b m} h => let ⟨o, es, ep, e, d, r⟩ := h; ⟨o, es, ep, there e d, d, r⟩
    have kin : K.In (hidT s.heap H) := fun b o e => hidT_get (inK b o e) (by
      cases hb : H b with
      | none => rfl
      | some u =>
        obtain ⟨e1, e2⟩ := alone b u hb
        rw [e1, e2] at e
        cases e)
    have modu : L2.Mod K mg (hidT s.heap H) := ⟨kin, spaces glob, ⟨mb, spaces blt, boot⟩, let ⟨mc, h1, h2⟩ := lim; ⟨mc, spaces h1, h2⟩⟩
    have env : Env0 P w K mg (hidT s.heap H) callerA [] s H := ⟨rfl, modu, fun b o e => of_hidT e, Nat.le_of_eq (hidT_size _ _), trivial, fun b hb => (List.not_mem_nil hb).elim, ok, .of_eq gens⟩
    refine codeAny_mono ((F _ kin (spaces glob)).run callerA [] s H ⟨[.ref a], []⟩ [.ref a] [.ref a] _ _ rfl room env (binds s (.ref a)) (.cons rfl .nil) (promise H only seq)) fun r z ended => ?_
    cases r with
    | error e => exact ended.elim
    | ok fl =>
      cases fl with
      | next => exact ended.elim
      | brk => exact ended.elim
      | cont => exact ended.elim
      | ret u =>
        obtain ⟨v, H2, os, bare, un, ok2, rv, q⟩ := ended
        have q2 : v = .bl true := q
        subst q2
        obtain rfl : u = Value.bool true := rv
        refine ⟨rfl, OldK.of_keep fun b o e => ?_, os, bare⟩
        cases hb : H b with
        | none => exact un.keep b o e hb (fun h => (List.not_mem_nil h).elim) (by simp)
        | some t =>
          rcases only b with h | ⟨ob, xs, h⟩
          · rw [hb] at h
            cases h
          · obtain ⟨e1, _⟩ := ok b _ h
            obtain ⟨e2, _⟩ := ok2 b _ (un.frzs b ob _ h)
            rw [e] at e1
            cases e1
            exact e2
  have lv := are.length
  cases hk : K.lookup a with
  | some o =>
    have e := inK a o hk
    rw [at_] at e
    cases e
    exact main (fun _ => none) (fun _ => .inl rfl) (.inr ⟨_, vs.toArray, _, hk, rfl, rfl, rfl, by rw [List.size_toArray, lv]; exact short, by simpa using rel⟩) (fun b u h => by cases h) fun b u h => by cases h
  | none =>
    let H1 : Hp := fun b => if b = a then some (.frz { cls := .type "list", data := .seq vs.toArray } (.lst (ns.map V.int))) else none
    have here : H1 a = some (.frz { cls := .type "list", data := .seq vs.toArray } (.lst (ns.map V.int))) := if_pos rfl
    have else_ : ∀ b u, H1 b = some u → b = a := fun b u h => by
      by_cases hb : b = a
      · exact hb
      · rw [show H1 b = none from if_neg hb] at h
        cases h
    refine main H1 (fun b => ?_) (.inl (.inr ⟨_, here⟩)) (fun b u h => ?_) fun b u h => ⟨else_ b u h, hk⟩
    · by_cases hb : b = a
      · exact .inr ⟨_, _, by rw [hb]; exact here⟩
      · exact .inl (if_neg hb)
    · obtain rfl := else_ b u h
      rw [here] at h
      cases h
      exact ⟨at_, by rw [List.length_map]; exact short, vs, _, rel, at_⟩
/-- the goal of the head -/
theorem walk_ofG {l : PySem.W.OpenLaw} {n : Nat} {q : Program} {loose : List Str} {XP : (Str → Option Value) → Heap → Prop} {YP : World → Heap → Prop} {d : DefRec} (hn : l.most = some n) (hn2 : n ≤ sizeLine) (hdf : d.params.defaults = []) (hr : Room k callerA)
    (F : ∀ (w : World) (mg : Str → Option Value) (fa : Addr) (h : Heap), YP w h → h.Ns mainGlobals mg → mg d.name = some (.ref fa) →
      ∃ (K : PySem.W.Frag) (fd : FuncData) (sp : Sp), K.In h ∧ (∀ (s : Shared) (u : Value), BindsTo s fd ⟨[u], []⟩ [(x, u)]) ∧
        (∀ (H : Hp) (a : Addr) (ns : List Int), ns.length ≤ n → Only H → SqL K H a (ns.map V.int) → sp [.ref a] H (fun v _ => v = .bl true) fun _ _ _ => False) ∧
        ∀ base : Heap, K.In base → base.Ns mainGlobals mg → FnG l.prog w K mg base k fa fd [x] sp) :
    PySem.W.WalkO q loose XP YP l.row.toRowW d [] (fun f vs => PySem.call f vs) := by
  refine Att.attach_call hn hdf fun w s₀ s₁ mg mb fa o pm cd doc a vs ns G Y ho hd hcd hmg hobj hints hlen hg => ?_
  obtain ⟨K, fd, sp, inK, binds, promise, fn⟩ := F w mg fa _ Y G.T.g hmg
  exact law_callG inK G.T.g G.T.b G.T.builtins G.T.nolimit hg hobj hints (Nat.le_trans hlen hn2) hr fn binds fun H only seq => promise H a ns hlen only seq
end
end TW
set_option Elab.async false
set_option linter.all false
set_option maxRecDepth 100000
set_option maxHeartbeats 4000000
/-! repr of lists and tuples of numbers, of bools. -/
namespace TW
open PySem PySem.Spec PyProof.Rows L2
def rSt : RT Str := ⟨fun _ v x => v = .str x, fun _ h => h⟩
def rRepr (K : PySem.W.Frag) : List V → Hp → VK → Prop := fun vs H Q => (∃ (a : Addr) (d : PyData), vs = [.ref a] ∧ L2.Dp K H (.ref a) d ∧ d.showable = true ∧ d.hasDict = false ∧ d.depth ≤ 5 ∧ d.shown.length ≤ sizeLine ∧ Q (.str d.shown) H) ∨
  ∃ b : Bool, vs = [.bl b] ∧ Q (.str (if b then "True" else "False")) H
theorem cr_repr {X : Cx} {K : PySem.W.Frag} (hK : X.K = K) (hg : X.A.guards = some []) (hu : X.A.units + 64 < cLine) : CallR X (.builtin "repr") (rRepr K) := by
  subst hK
  intro pins s σ H vs us Q I r h
  rcases h with ⟨a, d, rfl, dp, h1, h2, h3, h4, q⟩ | ⟨b, rfl, q⟩
  · obtain ⟨u, rfl, ru⟩ := vals1 r
    obtain rfl : u = Value.ref a := ru
    obtain ⟨as, rd⟩ := L2.Dp.reads I d (.ref a) (.ref a) dp rfl
    exact repr_of_reads' rd h1 (fun z => by rw [h2] at z; cases z) hg (by omega) (fun b o e => e) (fun h' u tk keep => ⟨.str d.shown, H, I.kept keep, ⟨u, rfl⟩, q⟩) h4
  · obtain ⟨u, rfl, ru⟩ := vals1 r
    obtain rfl : u = Value.bool b := ru
    exact P.repr_of_bool ⟨.str _, H, I.tok _, ⟨s.toks, by cases b <;> rfl⟩, q⟩
theorem call_tupleK {X : Cx} {K : PySem.W.Frag} (hK : X.K = K) : CallR X (.type "tuple") (fun xs H Q => ∃ p ys, xs = [V.ref p] ∧ ((SqL K H p ys ∧ ∀ l, H l = none → Q (.ref l) (upd H l (.tup ys))) ∨ (SqT K H p ys ∧ Q (.ref p) H))) := by
  subst hK
  exact call_tuple_of
theorem _root_.L2.Room.lines64 {k : Nat} {A : Around} (r : Room k A) : A.units + 64 < cLine := by have := r.un; omega
/-! small numbers -/
theorem text_len : ∀ l : List Str, ∀ (k : Nat) (acc : Str), (textFrom k acc l).length ≤ acc.length + (l.map fun t => t.length + 2).sum
  | [], k, acc => Nat.le_refl _
  | t :: l, k, acc => by
    have h := text_len l (k + 1) (acc ++ (if k > 0 then ", " else "" : String) ++ t)
    have e1 : (acc ++ ((if k > 0 then ", " else "" : String) : Str) ++ t).length = acc.length + ((if k > 0 then ", " else "" : String) : Str).length + t.length := by
      rw [Str.length_append, Str.length_append]
    have e2 : ((if k > 0 then ", " else "" : String) : Str).length ≤ 2 := by split <;> decide
    rw [List.map_cons, List.sum_cons]
    show (textFrom (k + 1) _ l).length ≤ _
    omega
def sayL (xs : List Int) : Str := (PyData.list (xs.map .int)).shown
def sayT (xs : List Int) : Str := (PyData.tuple (xs.map .int)).shown
def Short (x : Int) : Prop := 0 ≤ x ∧ x < 100
theorem small_text : ∀ n : Nat, n < 100 → ((toString (n : Int) : String) : Str).length ≤ 3 := by decide +kernel
theorem say_small {x : Int} (h : Short x) : (PyData.int x).shown.length ≤ 3 := by
  obtain ⟨h0, h1⟩ := h
  obtain ⟨n, rfl⟩ := Int.eq_ofNat_of_zero_le h0
  exact small_text n (by omega)
theorem sayL_len {a b c : Int} (ha : Short a) (hb : Short b) (hc : Short c) : (sayL [a, b, c]).length ≤ sizeLine := by
  have h := text_len [(PyData.int a).shown, (PyData.int b).shown, (PyData.int c).shown] 0 "["
  have e : (sayL [a, b, c]).length = (textFrom 0 "[" [(PyData.int a).shown, (PyData.int b).shown, (PyData.int c).shown]).length + ("]" : Str).length := Str.length_append _ _
  have l1 : ("[" : Str).length = 1 := by decide +kernel
  have l2 : ("]" : Str).length = 1 := by decide +kernel
  have := say_small ha
  have := say_small hb
  have := say_small hc
  simp only [List.map_cons, List.map_nil, List.sum_cons, List.sum_nil] at h
  have s : 100 ≤ sizeLine := by decide
  omega
theorem sayT_len {a b c : Int} (ha : Short a) (hb : Short b) (hc : Short c) : (sayT [a, b, c]).length ≤ sizeLine := by
  have e : sayT [a, b, c] = ("(" : Str) ++ ((PyData.int a).shown ++ ", " ++ ((PyData.int b).shown ++ ", " ++ (PyData.int c).shown)) ++ (")" : String) := rfl
  have l1 : ("(" : Str).length = 1 := by decide +kernel
  have l2 : (")" : Str).length = 1 := by decide +kernel
  have l3 : (", " : Str).length = 2 := by decide +kernel
  have := say_small ha
  have := say_small hb
  have := say_small hc
  rw [e, Str.length_append, Str.length_append, Str.length_append, Str.length_append, Str.length_append, Str.length_append]
  have s : 100 ≤ sizeLine := by decide
  omega
theorem show_small {x : Int} (h : Short x) : (PyData.int x).showable = true := by
  obtain ⟨h0, h1⟩ := h
  obtain ⟨n, rfl⟩ := Int.eq_ofNat_of_zero_le h0
  refine decide_eq_true ?_
  rcases Nat.eq_zero_or_pos (n : Int).natAbs with e | e
  · rw [e]; decide
  · exact Nat.lt_trans ((Nat.log2_lt (by omega)).mpr (show (n : Int).natAbs < 2 ^ 7 by omega)) (by decide)
section
variable {Γ : List Sl} {ta tb : TE} {K : PySem.W.Frag} {a b c : Int}
theorem dpAll3 {H : Hp} : L2.DpAll K H [.int a, .int b, .int c] [.int a, .int b, .int c] := .cons (.int a) (.cons (.int b) (.cons (.int c) .nil))
theorem eg_reprL (h : EG Γ ta (rL rI) [a, b, c]) (ha : Short a) (hb : Short b) (hc : Short c) : EG Γ (tCB (rRepr K) (tCons ta tNil)) rSt (sayL [a, b, c]) := fun H0 σ G H Q h0 s t k =>
  h H0 σ G H _ h0 s t fun v G1 H1 p r => by
    obtain ⟨q, vs, rfl, g, al, z⟩ := r
    rw [all2_int al] at g
    refine .inl ⟨q, .list [.int a, .int b, .int c], rfl, .lst (sq_of (p.s _ _ g)) dpAll3, ?_, rfl, by simp [PyData.depth, PyData.depthAll], sayL_len ha hb hc, k _ G1 H1 p rfl⟩
    show ((PyData.int a).showable && ((PyData.int b).showable && ((PyData.int c).showable && true))) = true
    rw [show_small ha, show_small hb, show_small hc]
    rfl
theorem eg_reprT (h : EG Γ ta (rP3 rI rI rI) (a, b, c)) (ha : Short a) (hb : Short b) (hc : Short c) : EG Γ (tCB (rRepr K) (tCons ta tNil)) rSt (sayT [a, b, c]) := fun H0 σ G H Q h0 s t k =>
  h H0 σ G H _ h0 s t fun v G1 H1 p r => by
    obtain ⟨q, v1, v2, v3, rfl, g, r1, r2, r3⟩ := r
    obtain rfl : v1 = .int a := r1
    obtain rfl : v2 = .int b := r2
    obtain rfl : v3 = .int c := r3
    refine .inl ⟨q, .tuple [.int a, .int b, .int c], rfl, .tup (st_of (p.s _ _ g)) dpAll3, ?_, rfl, by simp [PyData.depth, PyData.depthAll], sayT_len ha hb hc, k _ G1 H1 p rfl⟩
    show ((PyData.int a).showable && ((PyData.int b).showable && ((PyData.int c).showable && true))) = true
    rw [show_small ha, show_small hb, show_small hc]
    rfl
def sayB (x : Bool) : Str := if x then "True" else "False"
theorem eg_reprB {x : Bool} (h : EG Γ ta rB x) : EG Γ (tCB (rRepr K) (tCons ta tNil)) rSt (sayB x) := fun H0 σ G H Q h0 s t k =>
  h H0 σ G H _ h0 s t fun v G1 H1 p r => .inr ⟨x, by rw [show v = V.bl x from r], k _ G1 H1 p rfl⟩
theorem eg_neS {x y : Str} (ha : EG Γ ta rSt x) (hb : EG Γ tb rSt y) : EG Γ (tOp rNe ta tb) rB (!decide (x = y)) := fun H0 σ G H Q h0 s t k =>
  eg_two ha hb h0 s t fun v w G1 H1 p r1 r2 => by
    obtain rfl : v = .str x := r1
    obtain rfl : w = .str y := r2
    refine ⟨rfl, ?_⟩
    have e : decide (V.str x = V.str y) = decide (x = y) := decide_eq_decide.mpr ⟨fun e => V.str.inj e, fun e => congrArg V.str e⟩
    rw [e]
    exact k _ G1 H1 p rfl
theorem eg_tupL (h : EG Γ ta (rL rI) [a, b, c]) : EG Γ (tCB (fun xs H Q => ∃ p ys, xs = [V.ref p] ∧ ((SqL K H p ys ∧ ∀ l, H l = none → Q (.ref l) (upd H l (.tup ys))) ∨ (SqT K H p ys ∧ Q (.ref p) H))) (tCons ta tNil)) (rP3 rI rI rI) (a, b, c) := fun H0 σ G H Q h0 s t k =>
  h H0 σ G H _ h0 s t fun v G1 H1 p r => by
    obtain ⟨q, vs, rfl, g, al, z⟩ := r
    rw [all2_int al] at g
    refine ⟨q, _, rfl, .inl ⟨sq_of (p.s _ _ g), fun l hl => ?_⟩⟩
    have st := Step.new (o := .tup [.int a, .int b, .int c]) p.s hl
    exact k _ _ _ (p.trans st) ⟨l, .int a, .int b, .int c, rfl, upd_same, rfl, rfl, rfl⟩
end
/-! the dict of kinds, locked while it is walked -/
def PhiF (l d : Addr) (i : Nat) (Gs Hs : Hp) (od : Obj) (ks : Kd) : L2.St → Hp → Hp → Prop := fun σ G H => Phi0 l Gs Hs σ G H ∧ σ[i]? = some (some (.ref d)) ∧ d ≠ l ∧ H d = some (.frz od (.dK (dkv ks))) ∧ G d = none ∧ Hs d = none
theorem phiF (l d : Addr) (i : Nat) (Gs Hs : Hp) (od : Obj) (ks : Kd) : PhiOk l [0, i] (PhiF l d i Gs Hs od ks) := ⟨fun h => (phi0 l Gs Hs).pot h.1, fun ⟨h, e, ne, hd, gd, fd⟩ p q => ⟨(phi0 l Gs Hs).stab h p q, e, ne, p.h d _ ne hd, p.f d (by rw [hd]; exact fun z => nomatch z) gd, fd⟩,
  fun {σ G H j o} hj ⟨h, e, r⟩ => ⟨(phi0 l Gs Hs).set (fun z => hj (by simp at z; rw [z]; exact List.mem_cons_self ..)) h, by
    rw [List.getElem?_set_ne (fun z => hj (by rw [z]; exact List.mem_cons_of_mem _ (List.mem_cons_self ..)))]
    exact e, r⟩⟩
section
variable {l d : Addr} {i m : Nat} {Gs Hs : Hp} {od : Obj} {ks : Kd} {Γ : List Sl} {Ψ : L2.St → Hp → Hp → Prop} {ty : TE} {t : TS} {D : Ends}
theorem swap_at {G H : Hp} {u w : HO} {σ : L2.St} (s : Same G H) (ph : Phi0 l Gs Hs σ G H) (hd : H d = some u) (gd : G d = none) (fd : Hs d = none) (ne : d ≠ l) : Same G (upd H d w) ∧ Phi0 l Gs Hs σ G (upd H d w) := by
  obtain ⟨q0, q1, ⟨a, b, e, r⟩, q3⟩ := ph
  have s2 : Same G (upd H d w) := same_out s gd
  refine ⟨s2, q0, q1, ⟨a, b, by rw [upd_ne ne.symm]; exact e, r⟩, q3.g, s2, fun c o nc ec => ?_, q3.f, fun c hc => ?_⟩
  · have nd : c ≠ d := fun z => by rw [z, fd] at ec; cases ec
    rw [upd_ne nd]
    exact q3.h c o nc ec
  · by_cases hcd : c = d
    · rw [hcd, upd_same]
      exact fun z => nomatch z
    · rw [upd_ne hcd]
      exact q3.n c hc
theorem ed_dgetF {Pk Pv : Int → Prop} (hΨ : ∀ σ G H, Ψ σ G H → PhiF l d i Gs Hs od ks σ G H) (hk : ED Ψ Γ ty rI Pk) (h : ∀ k, Pk k → ∃ v, valD ks k = some v ∧ Pv v) : ED Ψ Γ (tDGet (tVar i) ty) rI Pv := fun σ G H Q s t p k => by
  obtain ⟨_, e, ne, hd, gd, _⟩ := hΨ _ _ _ p
  refine ⟨.ref d, e, hk σ G H _ s t p fun x v G1 H1 hx g1 s1 t1 p1 r1 => ?_⟩
  obtain ⟨_, e1, ne1, hd1, gd1, _⟩ := hΨ _ _ _ p1
  obtain ⟨y, hy, py⟩ := h x hx
  obtain rfl : v = .int x := r1
  have dg : DGet H1 d (kV (Sum.inl x)) (valV (dkv ks) (Sum.inl x)) := .inl ⟨_, _, .inr ⟨od, hd1⟩, rfl, rfl⟩
  rw [valD_dkv, hy] at dg
  exact ⟨d, .int y, rfl, dg, k y _ G1 H1 py g1 s1 t1 p1 rfl⟩
theorem x_keys {B : Type} (Γi : B → List Sl) (no : ∀ b, NoOwn (Γi b)) (hm : m ∉ [0, i]) (b0 : B) (w0 : Wk Γ (Γi b0)) (I : Nat → B → Prop) (i0 : I 0 b0)
    (body : ∀ (n : Nat) (p : Int × Int) (b : B) (d : Addr) (od : Obj) (D2 : Ends), I n b → ks[n]? = some p → D2.nx = (fun σ H => ∃ b', I (n + 1) b' ∧ SX (PhiF l d i Gs Hs od ks) (Γi b') σ H) →
      SgX (PhiF l d i Gs Hs od ks) (st (Γi b) m (.im rI p.1)) t D2)
    (fin : ∀ b, I ks.length b → NxX (PhiD l i true Gs Hs ks) (Γi b) D) : SgX (PhiD l i true Gs Hs ks) Γ (tLock (tFor (iKeys (tVar i)) (gName m) t)) D := fun σ H ⟨G, s, tt, ph, d, e, ne, hd, gd, fd⟩ => by
  have fd' := fd rfl
  refine ⟨d, .dK (dkv ks), hd, True.intro, fun od => ?_⟩
  obtain ⟨s2, ph2⟩ := swap_at (w := .frz od (.dK (dkv ks))) s ph hd gd fd' ne
  refine ⟨.ref d, e, d, od, rfl, .inl ⟨dkv ks, upd_same, ?_⟩⟩
  have hl : (dkv ks).length = ks.length := by unfold dkv; rw [List.length_map]
  refine for_it (walk_keys (d := d) (o := od) (kvs := dkv ks)) (Pv := fun n σ' H' => ∃ b, I n b ∧ SX (PhiF l d i Gs Hs od ks) (Γi b) σ' H') ⟨b0, i0, G, s2, (tt.weak w0).noown (no b0) (Same.refl _), ph2, e, ne, upd_same, gd, fd'⟩ ?_ ?_ ?_
  · rintro n σ' H' _ ⟨b, _, G2, _, _, p2⟩
    exact p2.2.2.2.1
  · rintro n v σ' H' H'' hn ⟨b, ib, G2, sG, tG, p2⟩ ⟨rfl, kk, vv, hk, rfl⟩
    rw [hl] at hn
    have hp := List.getElem?_eq_getElem hn
    have hq : (dkv ks)[n]? = some (Sum.inl (ks[n]).1, V.int (ks[n]).2) := by
      unfold dkv
      rw [List.getElem?_map, hp]
      rfl
    rw [hq] at hk
    cases hk
    exact body n ks[n] b d od _ ib hp rfl _ _ ⟨G2, sG, tG.set_im rfl, (phiF l d i Gs Hs od ks).set hm p2⟩
  · rintro σ' H' ⟨b, ib, G2, sG, tG, pF, e2, ne2, hd2, gd2, fd2⟩
    rw [hl] at ib
    obtain ⟨s3, ph3⟩ := swap_at (w := .dK (dkv ks)) sG pF hd2 gd2 fd2 ne2
    exact ⟨hd2, fin b ib σ' _ ⟨G2, s3, tG.noown (no b) (Same.refl _), ph3, d, e2, ne2, upd_same, gd2, fun _ => fd2⟩⟩
/-- kinds = f(pot, e) -/
theorem x_kinds {β : Type} {S : RT β} {A : β → Prop} {Ps : β → Kd → Prop} {Pb : β → Prop} {E : XK} {tb : TE} (no : NoOwn Γ) (hi : i ≠ 0) (hil : i < Γ.length) (hb : ED (Phi0 l Gs Hs) Γ tb S Pb) (c : ∀ y, Pb y → A y)
    (k : ∀ ks y, Pb y → Ps y ks → NxX (PhiD l i true Gs Hs ks) (st Γ i .no) D) : SgX (Phi0 l Gs Hs) Γ (tAsg (tCall (spPotK S A Ps) [] E (tCons (tVar 0) (tCons tb tNil))) (gName i)) D := fun σ H ⟨G, s, tt, p⟩ => by
  refine ⟨.ref l, p.1, hb σ G H _ s tt p fun y w G1 H1 hy g1 s1 t1 p1 r1 => ?_⟩
  refine ⟨l, w, y, G1, rfl, s1, p1.2.1, p1.2.2.1, r1, c y hy, fun ks d G2 H2 hks stp pt ne fr gd hd => ?_⟩
  have p2 := (phi0 l Gs Hs).stab p1 stp pt
  have hl : i < σ.length := by rw [tt.len]; exact hil
  have hsd : Hs d = none := by
    cases hh : Hs d with
    | none => rfl
    | some o => exact absurd (p1.2.2.2.h d o ne hh) (by rw [fr]; exact fun z => nomatch z)
  refine k ks y hy hks _ _ ⟨G2, stp.s, (t1.noown no stp.g).wipe1, ⟨?_, p2.2⟩, d, ?_, ne, hd, gd, fun _ => hsd⟩
  · rw [List.getElem?_set_ne hi]
    exact p2.1
  · rw [List.getElem?_set_self hl]
/-- f(pot, kinds) -/
theorem ed_letters {γ : Type} {U : RT γ} {A : Kd → Prop} {Ps : Kd → γ → Prop} {E : XK} (no : NoOwn Γ) (c : A ks) : ED (PhiD l i true Gs Hs ks) Γ (tCall (spPotD A U Ps) [] E (tCons (tVar 0) (tCons (tVar i) tNil))) U (Ps ks) := fun σ G H Q s tt p k => by
  obtain ⟨ph, d, e, ne, hd, gd, fd⟩ := id p
  refine ⟨.ref l, ph.1, .ref d, e, l, d, ks, G, rfl, s, ph.2.1, ph.2.2.1, ne, hd, gd, c, fun x v G1 H1 hx stp pt r => ?_⟩
  exact k x v G1 H1 hx stp.g stp.s (tt.noown no stp.g) ((phiD l i true Gs Hs ks).stab p stp pt) r
end
end TW
set_option Elab.async false
set_option linter.all false
set_option maxRecDepth 100000
set_option maxHeartbeats 4000000
namespace TW
open PySem PySem.Spec PyProof.Rows L2
/-! what the plain law has to give -/
def asI (ls : List ITab) : NLet := ls.map fun t => t.map fun r => r.map NumV.i
def dueStep (ks : Kd) (d : Int × Int × Int) (a : Int) : Int × Int × Int := (d.1 + (kindAt a).2.1, d.2.1 + (valD ks a).getD 0 * (valD ks a).getD 0 * (kindAt a).2.2.1, d.2.2 + (kindAt a).2.2.2)
def dueOf (ks : Kd) : Int × Int × Int := (ks.map (·.1)).foldl (dueStep ks) (0, 0, 0)
def dueL (d : Int × Int × Int) : List Int := [d.1, d.2.1, d.2.2]
def firstNum (ls : List ITab) : Int := at0 (atL (atL ls 0) 0) 0
def cornerLs (x : Int) : List ITab := [[[x, 1], [0, x]], [[0, 0], [0, 0]]]
def houOf (ls : List ITab) : Hou := m_House (asI ls)
def moreOf (ls : List ITab) : Hou := m_side (houOf [atL ls 0, atL ls 1]) (houOf (cornerLs (firstNum ls)))
def lastRow (n : Nat) : NTab := [(List.replicate (n + 1) (0 : Int) ++ [1]).map NumV.i]
structure Good (ks : Kd) (ls : List ITab) : Prop where
  two : ls.length = 2
  sz : ∀ t ∈ ls, t.length = sizeOf0 ls ∧ ∀ r ∈ t, r.length = sizeOf0 ls
  sm : sizeOf0 ls ≤ 4 ∧ 1 ≤ sizeOf0 ls
  lt : A_letters_in (asI ls)
  dm : A_dimension (houOf ls)
  cm : A_commuting (houOf ls)
  md : A_middle (houOf ls)
  d1 : m_dimension (houOf ls) = (dueOf ks).1
  d2 : ((m_commuting (houOf ls)).length : Int) = (dueOf ks).2.1
  d3 : ((m_middle (houOf ls)).length : Int) = (dueOf ks).2.2
  sh : Short (dueOf ks).1 ∧ Short (dueOf ks).2.1 ∧ Short (dueOf ks).2.2
  pa : A_parts (houOf ls)
  pt : m_parts (houOf ls) = true
  ev : A_every_table (houOf ls)
  et : m_every_table (houOf ls) = decide ((dueOf ks).1 = (sizeOf0 ls : Int) * (sizeOf0 ls : Int))
  mo : sizeOf0 ls ≤ 2 → A_letters_in (asI [atL ls 0, atL ls 1]) ∧ A_letters_in (asI (cornerLs (firstNum ls))) ∧ A_side (houOf [atL ls 0, atL ls 1]) (houOf (cornerLs (firstNum ls))) ∧ A_parts (moreOf ls) ∧ m_parts (moreOf ls) = false ∧ A_partner (moreOf ls) (lastRow (sizeOf0 ls))
def PlainLaw : Prop := ∀ ks ls, KOk 4 3 ks → ks ≠ [] → P__law_letters ks ls → Good ks ls
def sp__law_right (K : PySem.W.Frag) : Sp := fun vs H Q _ => ∃ l G, vs = [.ref l] ∧ Same G H ∧ G l = none ∧ PotAt H l ∧ ∀ H', Q (.bl true) H'
theorem len__law_right {K : PySem.W.Frag} : ∀ vs H Q E, sp__law_right K vs H Q E → vs.length = 1 := fun vs H Q E ⟨l, G, e, _⟩ => by rw [e]; rfl
def sp_law (K : PySem.W.Frag) : Sp := fun vs H Q _ => ∃ (a : Addr) (ns : List Int), vs = [.ref a] ∧ SqL K H a (ns.map V.int) ∧ ns.length < 1000 ∧ Only H ∧ ∀ H', Q (.bl true) H'
theorem len_law {K : PySem.W.Frag} : ∀ vs H Q E, sp_law K vs H Q E → vs.length = 1 := fun vs H Q E ⟨l, G, e, _⟩ => by rw [e]; rfl
theorem asN_rel2 {G : Hp} {v : V} {ls : List ITab} (h : (rL (rL (rL rI))).rel G v ls) : rN3.rel G v (asI ls) := rL_map (fun _ _ h1 => rL_map (fun _ _ h2 => rL_map (fun _ _ h3 => h3) h2) h1) h
section
variable {l : Addr} {pr : List Nat} {Φ : L2.St → Hp → Hp → Prop} {Γ : List Sl} {ta tb tc : TE} {K : PySem.W.Frag}
theorem ed_lst3 {Pa Pb Pc : Int → Prop} (O : PhiOk l pr Φ) (ha : ED Φ Γ ta rI Pa) (hb : ED Φ Γ tb rI Pb) (hc : ED Φ Γ tc rI Pc) :
    ED Φ Γ (tLst (tCons ta (tCons tb (tCons tc tNil)))) (rL rI) (fun xs => ∃ i j k, Pa i ∧ Pb j ∧ Pc k ∧ xs = [i, j, k]) := fun σ G H Q s t p kk =>
  ha σ G H _ s t p fun i v1 G1 H1 hi g1 s1 t1 p1 r1 => hb σ G1 H1 _ s1 t1 p1 fun j v2 G2 H2 hj g2 s2 t2 p2 r2 => hc σ G2 H2 _ s2 t2 p2 fun k v3 G3 H3 hk g3 s3 t3 p3 r3 => by
    obtain rfl : v1 = .int i := r1
    obtain rfl : v2 = .int j := r2
    obtain rfl : v3 = .int k := r3
    refine ⟨(by decide : 3 ≤ sizeLine), fun q hq => ?_⟩
    have st := Step.new (o := .lst [.int i, .int j, .int k]) s3 hq
    exact kk [i, j, k] _ _ _ ⟨i, j, k, hi, hj, hk, rfl⟩ ((g1.trans (g2.trans g3)).trans st.g) st.s (t3.step st) (O.stab p3 st.p ((O.pot p3).2.2.keep st.h)) ⟨q, _, rfl, upd_same, .cons rfl (.cons rfl (.cons rfl .nil)), (by decide : 3 < big)⟩
theorem eg_notB {x y : Bool} (ha : EG Γ ta rB x) (hb : EG Γ tb rB y) : EG Γ (tOp rNotB ta tb) rB (!decide (x = y)) := fun H0 σ G H Q h0 s t k =>
  eg_two ha hb h0 s t fun v w G1 H1 p r1 r2 => ⟨x, y, r1, r2, k _ G1 H1 p rfl⟩
theorem eg_isB {x y : Bool} (ha : EG Γ ta rB x) (hb : EG Γ tb rB y) : EG Γ (tOp rIsB ta tb) rB (decide (x = y)) := fun H0 σ G H Q h0 s t k =>
  eg_two ha hb h0 s t fun v w G1 H1 p r1 r2 => ⟨x, y, r1, r2, k _ G1 H1 p rfl⟩
end
def one_ (H : Hp) (a : Addr) : Hp := fun b => if b = a then H a else none
theorem one_at (H : Hp) (a : Addr) : one_ H a a = H a := if_pos rfl
theorem one_same (H : Hp) (a : Addr) : Same (one_ H a) H := fun b o e => by
  by_cases hb : b = a
  · subst hb
    rw [one_at] at e
    exact e
  · have : one_ H a b = none := if_neg hb
    rw [this] at e
    cases e
section
variable {P : Program} {w : World} {K : PySem.W.Frag} {mg : Str → Option Value} {base : Heap}
abbrev s__law_right : Stmt := (topS 123)
abbrev N__law_right : List Str := ["_law_pot_here", "_law_kinds_here", "_law_letters_here", "_law_known_here", "_law_house", "_law_due", "_law_at", "_law_size", "_law_number", "_law_more"]
theorem sc__law_right : FnScope N__law_right ["_law_pot_here"] (defScope s__law_right) := ⟨rfl, rfl, rfl, by decide +kernel, rfl, by decide +kernel, by decide +kernel⟩
abbrev T__law_right (P : Program) (w : World) (K : PySem.W.Frag) (mg : Str → Option Value) (base : Heap) : Prop := OkG P w K mg base "_law_right" 54 ["_law_pot_here"] (sp__law_right K)
theorem ok__law_right (T : Tx P K mg base) (d : Df K mg "_law_right" s__law_right) (PL : PlainLaw) (MH : MkH P w K mg base 47) (O__law_kinds : T__law_kinds P w K mg base) (O__law_draw : T__law_draw P w K mg base) (O__law_letters : T__law_letters P w K mg base) (O__law_known : T__law_known P w K mg base) (O_counts : T_counts P w K mg base) (O_dimension : T_dimension P w K mg base) (O_commuting : T_commuting P w K mg base) (O_middle : T_middle P w K mg base) (O_every_table : T_every_table P w K mg base) (O_parts : T_parts P w K mg base) (O_side : T_side P w K mg base) (O_partner : T_partner P w K mg base) : T__law_right P w K mg base := by
  refine mkOkG d sc__law_right (fun _ _ _ _ _ _ us hl => match us, hl with | [_], _ => rfl) len__law_right fun f cdv A outer s H E gd hr => ?_
  have nd := sc__law_right.nd
  refine ⟨_, (pss_cons (ps_set (i := 1) nd rfl (Or.inl rfl) (pe_callO O__law_kinds (hr.mono (by decide)) (by rfl) (pa_cons (pv 0) (pa_cons (pe_ifExp (pt_cmpR op_gt (pe_callO O__law_draw (hr.mono (by decide)) (by rfl) (pa_cons (pv 0) (pa_cons pe_int pa_nil))) pe_int (nomark _)) pe_int pe_int) pa_nil))))
      (pss_cons (ps_par (i := 2) (j := 3) rfl nd rfl rfl (by decide) rfl rfl (pa_cons (pe_callO O__law_letters (hr.mono (by decide)) (by rfl) (pa_cons (pv 0) (pa_cons (pv 1) pa_nil))) (pa_cons (pe_callO0 O__law_known (hr.mono (by decide)) (by rfl)) pa_nil)) (by rfl))
      (pss_cons (ps_set (i := 4) nd rfl (Or.inl rfl) (pe_mkH MH T.g_House (hr.mono (by decide)) (by rfl) (pa_cons (pv 2) pa_nil)))
      (pss_cons (ps_set (i := 5) nd rfl (Or.inl rfl) (pe_lst (pa_cons pe_int (pa_cons pe_int (pa_cons pe_int pa_nil)))))
      (pss_cons (ps_lock (ps_for PassesOwn.never rfl (pi_keys (pv 1)) (pg_name (i := 6) nd rfl (Or.inl rfl)) (pss_one (ps_set (i := 5) nd rfl (Or.inl rfl) (pe_lst (pa_cons (pe_op op_add (pe_ix (ix_listK (K := K) rfl) (pv 5) pe_int (fun _ _ => rfl)) (pe_ix (ix_tupK (K := K) rfl) (pe_ix (ix_listK (K := K) rfl) (pv 3) (pv 6) (fun _ _ => rfl)) pe_int (fun _ _ => rfl))) (pa_cons (pe_op op_add (pe_ix (ix_listK (K := K) rfl) (pv 5) pe_int (fun _ _ => rfl)) (pe_op op_mulP (pe_op op_mulP (pe_dget hr.lines1 (pv 1) (pv 6) (fun _ _ => rfl)) (pe_dget hr.lines1 (pv 1) (pv 6) (fun _ _ => rfl))) (pe_ix (ix_tupK (K := K) rfl) (pe_ix (ix_listK (K := K) rfl) (pv 3) (pv 6) (fun _ _ => rfl)) pe_int (fun _ _ => rfl)))) (pa_cons (pe_op op_add (pe_ix (ix_listK (K := K) rfl) (pv 5) pe_int (fun _ _ => rfl)) (pe_ix (ix_tupK (K := K) rfl) (pe_ix (ix_listK (K := K) rfl) (pv 3) (pv 6) (fun _ _ => rfl)) pe_int (fun _ _ => rfl))) pa_nil))))))))
      (pss_cons (ps_if (PW.pt (pw_or (pt_cmpR op_ne (pe_callB (cr_repr (K := K) rfl gd hr.lines64) (by rfl) T.repr bt_repr (pa_cons (pe_lst (pa_cons (pe_callO O_dimension (hr.mono (by decide)) (by rfl) (pa_cons (pv 4) pa_nil)) (pa_cons (pe_callB (call_lenK (K := K) rfl) (by rfl) T.len bt_len (pa_cons (pe_callO O_commuting (hr.mono (by decide)) (by rfl) (pa_cons (pv 4) pa_nil)) pa_nil)) (pa_cons (pe_callB (call_lenK (K := K) rfl) (by rfl) T.len bt_len (pa_cons (pe_callO O_middle (hr.mono (by decide)) (by rfl) (pa_cons (pv 4) pa_nil)) pa_nil)) pa_nil)))) pa_nil)) (pe_callB (cr_repr (K := K) rfl gd hr.lines64) (by rfl) T.repr bt_repr (pa_cons (pv 5) pa_nil)) (nomark _)) (pw_or1 (pt_cmpR op_ne (pe_callB (cr_repr (K := K) rfl gd hr.lines64) (by rfl) T.repr bt_repr (pa_cons (pe_callO O_counts (hr.mono (by decide)) (by rfl) (pa_cons (pv 4) pa_nil)) pa_nil)) (pe_callB (cr_repr (K := K) rfl gd hr.lines64) (by rfl) T.repr bt_repr (pa_cons (pe_callTy (call_tupleK (K := K) rfl) (by rfl) T.tuple bt_tuple (pa_cons (pv 5) pa_nil)) pa_nil)) (nomark _))))) (pss_one (ps_ret pe_bl)) pss_nil)
      (pss_cons (ps_set (i := 7) nd rfl (Or.inl rfl) (pe_callB (call_lenK (K := K) rfl) (by rfl) T.len bt_len (pa_cons (pe_ix (ix_listK (K := K) rfl) (pv 2) pe_int (fun _ _ => rfl)) pa_nil)))
      (pss_cons (ps_if (PW.pt (pw_or (pt_cmpR op_notBl (pe_callO O_parts (hr.mono (by decide)) (by rfl) (pa_cons (pv 4) pa_nil)) pe_bl (nomark _)) (pw_or1 (pt_cmpR op_ne (pe_callB (cr_repr (K := K) rfl gd hr.lines64) (by rfl) T.repr bt_repr (pa_cons (pe_callO O_every_table (hr.mono (by decide)) (by rfl) (pa_cons (pv 4) pa_nil)) pa_nil)) (pe_callB (cr_repr (K := K) rfl gd hr.lines64) (by rfl) T.repr bt_repr (pa_cons (pe_cmpR op_eq (pe_ix (ix_listK (K := K) rfl) (pv 5) pe_int (fun _ _ => rfl)) (pe_op op_mulP (pv 7) (pv 7)) (nomark _)) pa_nil)) (nomark _))))) (pss_one (ps_ret pe_bl)) pss_nil)
      (pss_cons (ps_if (pt_cmpR op_gt (pv 7) pe_int (nomark _)) (pss_one (ps_ret pe_bl)) pss_nil)
      (pss_cons (ps_set (i := 8) nd rfl (Or.inl rfl) (pe_ix (ix_listK (K := K) rfl) (pe_ix (ix_listK (K := K) rfl) (pe_ix (ix_listK (K := K) rfl) (pv 2) pe_int (fun _ _ => rfl)) pe_int (fun _ _ => rfl)) pe_int (fun _ _ => rfl)))
      (pss_cons (ps_set (i := 9) nd rfl (Or.inl rfl) (pe_callO O_side (hr.mono (by decide)) (by rfl) (pa_cons (pe_mkH MH T.g_House (hr.mono (by decide)) (by rfl) (pa_cons (pe_lst (pa_cons (pe_ix (ix_listK (K := K) rfl) (pv 2) pe_int (fun _ _ => rfl)) (pa_cons (pe_ix (ix_listK (K := K) rfl) (pv 2) pe_int (fun _ _ => rfl)) pa_nil))) pa_nil)) (pa_cons (pe_mkH MH T.g_House (hr.mono (by decide)) (by rfl) (pa_cons (pe_lst (pa_cons (pe_lst (pa_cons (pe_lst (pa_cons (pv 8) (pa_cons pe_int pa_nil))) (pa_cons (pe_lst (pa_cons pe_int (pa_cons (pv 8) pa_nil))) pa_nil))) (pa_cons (pe_lst (pa_cons (pe_lst (pa_cons pe_int (pa_cons pe_int pa_nil))) (pa_cons (pe_lst (pa_cons pe_int (pa_cons pe_int pa_nil))) pa_nil))) pa_nil))) pa_nil)) pa_nil))))
      (pss_one (ps_ret (pe_and (pe_cmpR op_isBl (pe_callO O_parts (hr.mono (by decide)) (by rfl) (pa_cons (pv 9) pa_nil)) pe_bl (nomark _)) (pe_one (pe_cmp (pc_isN (pe_callO O_partner (hr.mono (by decide)) (by rfl) (pa_cons (pv 9) (pa_cons (pe_lst (pa_cons (pe_op op_cat (pe_op op_rep (pe_lst (pa_cons pe_int pa_nil)) (pe_op op_add (pv 7) pe_int)) (pe_lst (pa_cons pe_int pa_nil))) pa_nil)) pa_nil)))))))))))))))))))), ?_⟩
  rintro vs H' Q ⟨l, Gs, rfl, sm, gl, pt, k⟩
  have O := phi0 l Gs H'
  have start : SX (Phi0 l Gs H') (nos 10) (L2.start N__law_right [.ref l]) H' := ⟨Gs, sm, by
    have t0 : Ty H' (.im rAny () :: nos 9) (L2.start N__law_right [.ref l]) Gs H' := Ini.ty (.cons trivial (.nil 9)) (by simp [nos_len, N__law_right])
    have t1 := t0.weak (Γ' := nos 10) ⟨.inl rfl, Wk.refl _⟩
    exact ⟨t1.len, fun i => by rw [gt_nos]; trivial, fun i j l' hi => by rw [gt_nos] at hi; cases hi⟩, rfl, gl, pt, StepP.refl sm⟩
  suffices h : SgX (Phi0 l Gs H') (nos 10) _ { nx := fun _ H' => Q .non H', rt := Q } from h _ _ start
  have no10 : NoOwn (nos 10) := rfl
  refine x_seq (x_kinds (i := 1) no10 (by decide) (by simp [nos]) (ed_mono (Pt := fun y : Int => y = 3 ∨ y = 4) (ed_if (ed_gt (ed_draw O no10 (ed_of O eg_int) (fun y hy => by subst hy; exact ⟨by decide, by decide⟩)) (ed_of O eg_int)) (fun _ => ed_of O eg_int) (fun _ => ed_of O eg_int)) (fun x hx => hx)) (fun y hy => by rcases hy with rfl | rfl <;> decide) fun ks y hy hks => x_go ?_)
  obtain ⟨kok, kne⟩ := hks
  have kok4 : KOk 4 3 ks := ⟨kok.nd, kok.rg, kok.cn, by have := kok.wt; rcases hy with rfl | rfl <;> omega⟩
  have O := phiD l 1 true Gs H' ks
  refine x_seq (x_par O (by decide) (by decide) (ed_letters rfl kok4) (ed_of O eg_call0) fun ls kn hls hkn => x_go ?_)
  subst hkn
  have G := PL ks ls kok4 kne hls
  have sz0 : 1 ≤ sizeOf0 ls := G.sm.2
  have sz4 : sizeOf0 ls ≤ 4 := G.sm.1
  refine x_seq (x_asg O (by decide) (ed_of O (eg_mkH ((eg_var 2 rfl).as fun G v r => asN_rel2 r) G.lt)) fun h hh => x_go ?_)
  subst hh
  refine x_seq (x_asg O (by decide) (ed_of O (en_lst (er_cons eg_int (er_cons eg_int (er_cons eg_int er_nil))) (show 3 < big by decide)).eg) fun due hdue => x_go ?_)
  subst hdue
  have known : ∀ a, 0 ≤ a → a < 8 → L2.atI m__law_known a = some (kindAt a) := fun a h0 h1 => by
    obtain ⟨m, rfl⟩ := Int.eq_ofNat_of_zero_le h0
    have hm : m < m__law_known.length := by show m < 8; omega
    refine atI_of ?_
    unfold kindAt
    rw [Int.toNat_natCast, List.getElem?_eq_getElem hm]
    rfl
  have small : ∀ a, 0 ≤ a → a < 8 → Sm (kindAt a).2.2.1 := fun a h0 h1 => by
    obtain ⟨m, rfl⟩ := Int.eq_ofNat_of_zero_le h0
    have h : ∀ m : Nat, m < 8 → (kindAt (m : Int)).2.2.1.natAbs ≤ 10 := by decide
    have := h m (by omega)
    exact sm_small (by omega)
  have cnt3 : ∀ p ∈ ks, p.2 ≤ 3 := by
    intro p hp
    have h2 := kok.cn
    have h3 := fun q hq => (kok.rg q hq).2.2
    have : p.2 ≤ total (fun _ => 1) ks := by
      clear h2
      generalize ks = l at hp h3
      induction l with
      | nil => cases hp
      | cons q l ih =>
        have h4 := total_len (ks := l) fun x hx => h3 x (List.mem_cons_of_mem _ hx)
        unfold total at *
        rw [List.map_cons, List.sum_cons]
        have h5 := h3 q (List.mem_cons_self ..)
        simp only [Int.mul_one] at *
        rcases List.mem_cons.mp hp with rfl | h6
        · omega
        · have := ih h6 fun x hx => h3 x (List.mem_cons_of_mem _ hx)
          omega
    omega
  refine x_seq (x_keys (B := Nat) (fun n => [.no, .no, .im (rL (rL (rL rI))) ls, .im (rL rKn) m__law_known, .im rH (houOf ls), .im (rL rI) (dueL (((ks.map (·.1)).take n).foldl (dueStep ks) (0, 0, 0))), .no, .no, .no, .no]) (fun _ => rfl) (by decide) 0 ⟨.inr rfl, .inr rfl, .inr rfl, .inr rfl, .inr rfl, .inr rfl, .inl rfl, .inl rfl, .inl rfl, .inl rfl, trivial⟩ (fun n b => b = n) rfl
    (fun n p b d od D2 hb hp hD => ?_) fun b hb => x_go ?_)
  · subst hb
    have mp := mem_of_at hp
    obtain ⟨r0, r1, r2⟩ := kok.rg p mp
    have c3 := cnt3 p mp
    have OF := phiF l d 1 Gs H' od ks
    obtain ⟨v, ev, hv⟩ := valD_mem (List.mem_map.mpr ⟨p, mp, rfl⟩ : p.1 ∈ ks.map (·.1))
    have v3 := cnt3 _ hv
    have v1 := (kok.rg _ hv).2.2
    simp only at v3 v1
    have hk := known p.1 r0 r1
    have dg : ∀ {Γ : List Sl}, gt Γ 6 = .im rI p.1 → ED (PhiF l d 1 Gs H' od ks) Γ (tDGet (tVar 1) (tVar 6)) rI (fun x => x = v) := fun h => ed_dgetF (fun _ _ _ h => h) (ed_of OF (eg_var 6 h)) (fun x hx => by subst hx; exact ⟨v, ev, rfl⟩)
    refine x_asg OF (by decide) (ed_lst3 OF (ed_of OF (eg_add (eg_ix (eg_var 5 rfl) eg_int at_zero) (eg_p42 (eg_ix (eg_var 3 rfl) (eg_var 6 rfl) hk) eg_int)))
      (ed_op0 (ed_of OF (eg_ix (eg_var 5 rfl) eg_int (atI_of (n := 1) rfl))) (ed_op (C := fun i j => Sm i ∧ Sm j) (ed_op (C := fun i j => Sm i ∧ Sm j) (dg rfl) (dg rfl) ?_) (ed_of OF (eg_p43 (eg_ix (eg_var 3 rfl) (eg_var 6 rfl) hk) eg_int)) ?_))
      (ed_of OF (eg_add (eg_ix (eg_var 5 rfl) eg_int (atI_of (n := 2) rfl)) (eg_p44 (eg_ix (eg_var 3 rfl) (eg_var 6 rfl) hk) eg_int)))) fun xs hxs => ?_
    · rintro i j rfl rfl
      exact ⟨sm_small (by omega), sm_small (by omega)⟩
    · rintro i j ⟨i2, j2, h2, h3, rfl⟩ rfl
      refine ⟨?_, small _ r0 r1⟩
      have hv3 : v = 1 ∨ v = 2 ∨ v = 3 := by omega
      rw [h2, h3]
      rcases hv3 with e | e | e <;> rw [e] <;> exact sm_small (by decide)
    · obtain ⟨i, j, k2, rfl, ⟨i3, j3, rfl, ⟨i4, j4, ⟨i5, j5, rfl, rfl, rfl⟩, rfl, rfl⟩, rfl⟩, rfl, rfl⟩ := hxs
      intro σ H2 ⟨G2, s2, ty2, ph2⟩
      rw [hD]
      refine ⟨b + 1, rfl, G2, s2, ty2.weak ⟨.inr rfl, .inr rfl, .inr rfl, .inr rfl, .inr rfl, .inr ?_, .inl rfl, .inl rfl, .inl rfl, .inl rfl, trivial⟩, ph2⟩
      have hp' : (ks.map (·.1))[b]? = some p.1 := by rw [List.getElem?_map, hp]; rfl
      rw [take_succ' hp', List.foldl_append]
      show Sl.im (rL rI) _ = Sl.im (rL rI) (dueL (dueStep ks _ p.1))
      unfold dueStep dueL
      rw [ev]
      rfl
  · subst hb
    rw [← List.length_map (f := fun x : Int × Int => x.1), List.take_length]
    show SgX _ [_, _, _, _, _, .im (rL rI) (dueL (dueOf ks)), _, _, _, _] _ _
    obtain ⟨s1, s2, s3⟩ := G.sh
    have smz : Sm (sizeOf0 ls : Int) := sm_nat (by omega)
    have l2 : 1 < ls.length := by rw [G.two]; decide
    have m0 : atL ls 0 ∈ ls := atL_mem (i := 0) ⟨by decide, by rw [Int.toNat_zero]; omega⟩
    have a0 : L2.atI ls 0 = some (atL ls 0) := atL_at (by decide) (by rw [Int.toNat_zero]; omega)
    have a1 : L2.atI ls 1 = some (atL ls 1) := atL_at (by decide) (show (1 : Int).toNat < ls.length from l2)
    have z0 := G.sz _ m0
    have i1 : inR (atL ls 0) 0 := ⟨by decide, by rw [Int.toNat_zero, z0.1]; omega⟩
    have z1 := z0.2 _ (atL_mem i1)
    have i2 : inR (atL (atL ls 0) 0) 0 := ⟨by decide, by rw [Int.toNat_zero, z1]; omega⟩
    refine x_seq (x_if (b := !decide (sayL (dueL (dueOf ks)) = sayL (dueL (dueOf ks))) || !decide (sayT (dueL (dueOf ks)) = sayT (dueL (dueOf ks)))) O (tg_or (tg_val (eg_neS (eg_reprL ((en_lst (er_cons (eg_call1 (eg_var 4 rfl) G.dm) (er_cons (eg_len (eg_call1 (eg_var 4 rfl) G.cm)) (er_cons (eg_len (eg_call1 (eg_var 4 rfl) G.md)) er_nil))) (show 3 < big by decide)).eg.cast (x' := dueL (dueOf ks)) (by rw [G.d1, G.d2, G.d3]; rfl)) s1 s2 s3) (eg_reprL (eg_var 5 rfl) s1 s2 s3)))
      (fun _ => tg_val (eg_neS (eg_reprT ((eg_call1 (eg_var 4 rfl) ⟨G.pa, G.pt, G.cm, G.md⟩).cast (x' := dueOf ks) ?_) s1 s2 s3) (eg_reprT (eg_tupL (eg_var 5 rfl)) s1 s2 s3)))) (fun h => absurd h (by simp)) fun _ => x_next (x_go ?_))
    · have e1 := G.d1
      have e2 := G.d2
      have e3 := G.d3
      unfold m_dimension at e1
      unfold m_counts
      rw [e1]
      show ((dueOf ks).1, ((m_commuting (houOf ls)).length : Int), ((m_middle (houOf ls)).length : Int)) = _
      rw [e2, e3]
    refine x_seq (x_asg O (by decide) (ed_of O (eg_len (eg_ix (eg_var 2 rfl) eg_int a0))) fun z hz => x_go ?_)
    have hz' : z = (sizeOf0 ls : Int) := hz
    subst hz'
    refine x_seq (x_if (b := !decide (m_parts (houOf ls) = true) || !decide (sayB (m_every_table (houOf ls)) = sayB (decide ((dueOf ks).1 = (sizeOf0 ls : Int) * (sizeOf0 ls : Int))))) O (tg_or (tg_val (eg_notB (eg_call1 (eg_var 4 rfl) G.pa) eg_bl)) (fun _ => tg_val (eg_neS (eg_reprB (eg_call1 (eg_var 4 rfl) G.ev)) (eg_reprB (eg_eq (eg_ix (eg_var 5 rfl) eg_int at_zero) (eg_mulP (eg_var 7 rfl) (eg_var 7 rfl) smz smz)))))) (fun h => absurd h (by rw [show m_parts (houOf ls) = true from G.pt, show m_every_table (houOf ls) = _ from G.et, decide_eq_true (rfl : true = true), decide_eq_true rfl]; decide)) fun _ => x_next (x_go ?_))
    refine x_seq (x_if (b := decide ((2 : Int) < (sizeOf0 ls : Int))) O (tg_val (eg_gt (eg_var 7 rfl) eg_int)) (fun h => ?_) fun h => x_next (x_go ?_))
    · exact x_ret (Q := Q) (ed_of O eg_bl) (fun x σ v G H hx p r => by
        subst hx
        obtain rfl : v = .bl true := r
        exact k H) rfl
    · have hs2 : sizeOf0 ls ≤ 2 := by have := of_decide_eq_false h; omega
      obtain ⟨g1, g2, g3, g4, g5, g6⟩ := G.mo hs2
      refine x_seq (x_asg O (by decide) (ed_of O (eg_ix (eg_ix (eg_ix (eg_var 2 rfl) eg_int a0) eg_int (atL_at i1.1 i1.2)) eg_int (at0_at i2.1 i2.2))) fun x hx => x_go ?_)
      have hx' : x = firstNum ls := hx
      subst hx'
      refine x_seq (x_asg O (by decide) (ed_of O (eg_call2 (eg_mkH (v := asI [atL ls 0, atL ls 1]) ((en_lst (er_cons (eg_ix (eg_var 2 rfl) eg_int a0) (er_cons (eg_ix (eg_var 2 rfl) eg_int a1) er_nil)) (show 2 < big by decide)).eg.as fun G v r => asN_rel2 r) g1) (eg_mkH (v := asI (cornerLs (firstNum ls))) ((en_lst (er_cons (en_lst (er_cons (en_lst (er_cons (eg_var 8 rfl) (er_cons eg_int er_nil)) (show 2 < big by decide)).eg (er_cons (en_lst (er_cons eg_int (er_cons (eg_var 8 rfl) er_nil)) (show 2 < big by decide)).eg er_nil)) (show 2 < big by decide)).eg (er_cons (en_lst (er_cons (en_lst (er_cons eg_int (er_cons eg_int er_nil)) (show 2 < big by decide)).eg (er_cons (en_lst (er_cons eg_int (er_cons eg_int er_nil)) (show 2 < big by decide)).eg er_nil)) (show 2 < big by decide)).eg er_nil)) (show 2 < big by decide)).eg.as fun G v r => asN_rel2 r) g2) g3)) fun mo hmo => x_go ?_)
      have hmo' : mo = moreOf ls := hmo
      subst hmo'
      have e10 : List.replicate ((sizeOf0 ls : Int) + 1).toNat (0 : Int) = List.replicate (sizeOf0 ls + 1) 0 := by
        rw [show ((sizeOf0 ls : Int) + 1).toNat = sizeOf0 ls + 1 by omega]
      have v1 : decide (m_parts (moreOf ls) = false) = true := decide_eq_true g5
      have v2 : (m_partner (moreOf ls) (lastRow (sizeOf0 ls))).isNone = true := rfl
      refine x_ret (Q := Q) (ed_of O ((eg_andV (a := decide (m_parts (moreOf ls) = false)) (b := (m_partner (moreOf ls) (lastRow (sizeOf0 ls))).isNone) (eg_isB (eg_call1 (eg_var 9 rfl) g4) eg_bl) (fun _ => eg_isN nn_L (eg_call2 (eg_var 9 rfl) ((en_lst (er_cons (en_cat ((en_rep (en_lst (er_cons eg_int er_nil) (show 1 < big by decide)).eg (eg_add (eg_var 7 rfl) eg_int) (by omega) (by omega)).cast e10).eg (en_lst (er_cons eg_int er_nil) (show 1 < big by decide)).eg (by rw [List.length_replicate]; show _ + 1 < big; unfold big; omega)).eg er_nil) (show 1 < big by decide)).eg.as fun G v r => rL_map (f := fun r : List Int => r.map NumV.i) (fun _ _ h1 => rL_map (f := NumV.i) (fun _ _ h3 => h3) h1) r) g6))).cast (x' := true) (by rw [v1, v2]; rfl))) (fun x σ v G H hx p r => ?_) rfl
      have hx2 : x = true := hx
      rw [hx2] at r
      obtain rfl : v = .bl true := r
      exact k H
abbrev s_law : Stmt := (topS 124)
abbrev N_law : List Str := ["_law_script"]
theorem sc_law : FnScope N_law ["_law_script"] (defScope s_law) := ⟨rfl, rfl, rfl, by decide +kernel, rfl, by decide +kernel, by decide +kernel⟩
abbrev T_law (P : Program) (w : World) (K : PySem.W.Frag) (mg : Str → Option Value) (base : Heap) : Prop := OkG P w K mg base "law" 55 ["_law_script"] (sp_law K)
theorem ok_law (T : Tx P K mg base) (d : Df K mg "law" s_law) (O__law_right : T__law_right P w K mg base) (O__law_pot : T__law_pot P w K mg base) : T_law P w K mg base := by
  refine mkOkG d sc_law (fun _ _ _ _ _ _ us hl => match us, hl with | [_], _ => rfl) len_law fun f cdv A outer s H E gd hr => ?_
  have nd := sc_law.nd
  refine ⟨_, (pss_one (ps_ret (pe_callG O__law_right gd (hr.mono (by decide)) (by rfl) (pa_cons (pe_callO O__law_pot (hr.mono (by decide)) (by rfl) (pa_cons (pv 0) (pa_cons pe_int pa_nil))) pa_nil)))), ?_⟩
  rintro vs H' Q ⟨a, ns, rfl, seq, z, only, k⟩
  have smG := one_same H' a
  have seqG : SqL K (one_ H' a) a (ns.map V.int) := by
    rcases seq with (h | ⟨o, h⟩) | h
    · exact .inl (.inl (by rw [one_at]; exact h))
    · exact .inl (.inr ⟨o, by rw [one_at]; exact h⟩)
    · exact .inr h
  have ty : Ty H' (.im (rS K) ns :: nos 0) (L2.start N_law [.ref a]) (one_ H' a) H' := Ini.ty (.cons ⟨a, rfl, seqG, z⟩ (.nil 0)) (by simp [nos_len, N_law])
  refine (en_call2N (E := E0) (A := A__law_pot) (f := m__law_pot) (eg_var 0 rfl) eg_int rfl) H' _ _ H' _ (Same.refl _) smG ty fun l vs G1 H1 p1 hl hg hh al z1 => ?_
  refine ⟨l, G1, rfl, p1.s, hg, ?_, fun H2 => k H2⟩
  unfold m__law_pot at al
  cases al with
  | cons r1 t1 =>
    cases t1 with
    | cons r2 t2 =>
      cases t2
      have c0 : 0 ≤ (cellOf ns % 2147483549 + 17299) * 125 % 2147483477 + 1 := by
        have := Int.emod_nonneg ((cellOf ns % 2147483549 + 17299) * 125) (show (2147483477 : Int) ≠ 0 by decide)
        omega
      have c1 : (cellOf ns % 2147483549 + 17299) * 125 % 2147483477 + 1 < 2 ^ 40 := by
        have := Int.emod_lt_of_pos ((cellOf ns % 2147483549 + 17299) * 125) (show (0 : Int) < 2147483477 by decide)
        omega
      refine ⟨_, _, by rw [hh, show _ = V.int _ from r1, show _ = V.int _ from r2], ?_, c0, c1⟩
      split <;> omega
end
end TW
set_option Elab.async false
set_option linter.all false
set_option maxRecDepth 100000
set_option maxHeartbeats 0
/-! What the head tells: the facts, all promises. -/
namespace TH
open PySem PySem.Spec PyProof.Rows L2 TW
theorem look {g : Addr → Option Obj} {a : Addr} : ∀ {as : List Addr}, a ∈ as → (He.frG g as).lookup a = g a := by
  intro as
  induction as with
  | nil => exact fun h => nomatch h
  | cons b r ih =>
    intro h
    unfold He.frG
    rw [List.filterMap_cons]
    cases hb : g b with
    | none =>
      show (He.frG g r).lookup a = g a
      rcases List.mem_cons.mp h with e | h
      · subst e
        cases e : (He.frG g r).lookup a with
        | none => exact hb.symm
        | some o => exact absurd (He.frG_at r e) (by rw [hb]; exact fun z => nomatch z)
      · exact ih h
    | some o =>
      show List.lookup a ((b, o) :: He.frG g r) = g a
      rw [List.lookup_cons]
      cases q : (a == b) with
      | true =>
        rw [eq_of_beq q, hb]
      | false =>
        rcases List.mem_cons.mp h with e | h
        · rw [e] at q
          simp at q
        · exact ih h
def getE (l : List (Option (List Nat) × Tg)) (k : List Nat) : Option Tg := (l.find? fun e => e.1 == some k).map (·.2)
theorem key_str {v : Value} {k : List Nat} (h : keyOf v = some k) : ∃ s t, v = .str s t ∧ s.cps.toList = k := by
  cases v with
  | str s t => exact ⟨s, t, rfl, Option.some.inj h⟩
  | _ => cases h
theorem find_ent (x : Str) : ∀ (es : List DictEntry), ((es.map entOf).all fun e => e.1.isSome) = true →
    (getE (es.map entOf) x.cps.toList = (es.find? fun e => e.key.isStr x).map fun e => tgOf e.val) ∧ es.any (·.refKey) = false := by
  intro es
  induction es with
  | nil => exact fun _ => ⟨rfl, rfl⟩
  | cons e es ih =>
    intro h
    rw [List.map_cons, List.all_cons, Bool.and_eq_true] at h
    obtain ⟨h1, h2⟩ := h
    obtain ⟨i1, i2⟩ := ih h2
    obtain ⟨k, hk⟩ := Option.isSome_iff_exists.mp h1
    obtain ⟨s, t, es1, es2⟩ := key_str (show keyOf e.key = some k from hk)
    have r : e.refKey = false := by unfold DictEntry.refKey; rw [es1]
    refine ⟨?_, by rw [List.any_cons, r, i2]; rfl⟩
    unfold getE at i1 ⊢
    rw [List.map_cons, List.find?_cons, List.find?_cons]
    have c1 : ((entOf e).1 == some x.cps.toList) = (e.key.isStr x) := by
      have e1 : (entOf e).1 = some s.cps.toList := by show keyOf e.key = _; rw [es1]; rfl
      rw [e1, es1]
      show (some s.cps.toList == some x.cps.toList) = (s == x)
      by_cases q : s = x
      · rw [q]; simp
      · have q2 : s.cps.toList ≠ x.cps.toList := fun z => q (by
          cases s; cases x
          congr 1
          exact Array.toList_inj.mp z)
        rw [show (s == x) = false from beq_eq_false_iff_ne.mpr q, show (some s.cps.toList == some x.cps.toList) = false from beq_eq_false_iff_ne.mpr fun z => q2 (Option.some.inj z)]
    rw [c1]
    cases e.key.isStr x with
    | true => rfl
    | false => exact i1
section
variable {g : Addr → Option Obj} {h : Heap} {mg : Str → Option Value}
abbrev KK (g : Addr → Option Obj) : PySem.W.Frag := He.frG g lits
theorem lit_in (a : Addr) (h : ([3, 2, 1, 4, 438, 437, 671, 670, 303, 319, 288] : List Addr).contains a = true) : a ∈ lits := by
  unfold lits
  exact List.mem_append_left _ (List.mem_append_left _ (List.contains_iff_mem.mp h))
theorem ents_of {d : Addr} {l : List (Option (List Nat) × Tg)} (e : entsAt g d = some l) : ∃ c od es ep sl, g d = some ⟨c, od, .dict es ep, sl⟩ ∧ es.toList.map entOf = l := by
  unfold entsAt at e
  split at e
  · exact ⟨_, _, _, _, _, ‹_›, Option.some.inj e⟩
  · cases e
theorem gl_keys : (gl.all fun e => e.1.isSome) = true := by decide +kernel
theorem glob_in (c : entsAt g mainGlobals = some gl) (x : Str) : (∀ t, getE gl x.cps.toList = some t → ∃ v, PySem.W.nsIn (KK g) mainGlobals x = some (some v) ∧ tgOf v = t) ∧ (getE gl x.cps.toList = none → PySem.W.nsIn (KK g) mainGlobals x = some none) := by
  obtain ⟨cc, od, es, ep, sl, e1, e2⟩ := ents_of c
  have lk : (KK g).lookup mainGlobals = some ⟨cc, od, .dict es ep, sl⟩ := (look (lit_in 3 rfl)).trans e1
  obtain ⟨f1, f2⟩ := find_ent x es.toList (by rw [e2]; exact gl_keys)
  rw [e2] at f1
  unfold PySem.W.nsIn
  rw [lk]
  simp only
  rw [f1]
  cases q : es.toList.find? fun e => e.key.isStr x with
  | none => exact ⟨fun t ht => (nomatch ht), fun _ => by rw [f2]; rfl⟩
  | some e => exact ⟨fun t ht => ⟨e.val, rfl, Option.some.inj ht⟩, fun z => nomatch z⟩
variable (c : obsOf g = valOf) (X : (KK g).In h) (G : h.Ns mainGlobals mg)
include c X G
theorem c_ents : entsAt g mainGlobals = some gl := congrArg (·.1) c
theorem c_sys : lackAt g cStatics [[115, 121, 115, 46, 97, 117, 100, 105, 116, 45, 104, 111, 111, 107, 115], [115, 121, 115, 46, 100, 105, 99, 116]] = true := congrArg (·.2.1) c
theorem c_mod : lackAt g sysModules [[95, 112, 121, 108, 111, 110, 103]] = true := congrArg (·.2.2.1) c
theorem c_fs : fs.map (fun e => fnAt g e.at_) = fs.map FnE.val := congrArg (·.2.2.2.1) c
theorem c_ok : okB (KK g) = List.replicate 22 true := congrArg (·.2.2.2.2) c
theorem gref (x : Str) (a : Addr) (e : getE gl x.cps.toList = some (.ref a)) : mg x = some (.ref a) := by
  obtain ⟨v, h1, h2⟩ := (glob_in (c_ents c X G) x).1 _ e
  rw [PySem.W.mg_of X G h1]
  cases v <;> first | (cases h2; rfl) | cases h2
theorem gbi (x : Str) (s : String) (e : getE gl x.cps.toList = some (.bi s)) : mg x = some (.builtin s) := by
  obtain ⟨v, h1, h2⟩ := (glob_in (c_ents c X G) x).1 _ e
  rw [PySem.W.mg_of X G h1]
  cases v <;> first | (cases h2; rfl) | cases h2
theorem gint (x : Str) (i : Int) (e : getE gl x.cps.toList = some (.int i)) : ∃ t, mg x = some (.int i t) := by
  obtain ⟨v, h1, h2⟩ := (glob_in (c_ents c X G) x).1 _ e
  rw [PySem.W.mg_of X G h1]
  cases v <;> first | (cases h2; exact ⟨_, rfl⟩) | cases h2
theorem gnone (x : Str) (e : getE gl x.cps.toList = none) : mg x = none := PySem.W.mg_none_of X G ((glob_in (c_ents c X G) x).2 e)
theorem fn_all : ∀ e ∈ fs, fnAt g e.at_ = e.val := List.map_inj_left.mp (c_fs c X G)
theorem okI (i : Nat) (b : Bool) (e : (okB (KK g))[i]? = some b) : b = true := by
  rw [c_ok c X G] at e
  exact (List.mem_replicate.mp (List.mem_of_getElem? e)).2
theorem fun_at {e : FnE} (he : e ∈ fs) : ∃ fd oc od osl kV doc pm an ct, (KK g).lookup e.at_ = some ⟨oc, od, .func fd, osl⟩ ∧ fd = PySem.W.fnOf e.name e.qual (defArgs e.st) (defBody e.st) (defScope e.st) e.dfl kV doc pm an (.ref e.cd) ct ∧ PySem.W.codeIn (KK g) (.ref e.cd) e.qual = true ∧ PySem.W.keepIn (KK g) (.ref e.at_) = true := by
  have lk : (KK g).lookup e.at_ = g e.at_ := look (by
    unfold lits
    exact List.mem_append_left _ (List.mem_append_right _ (List.mem_map.mpr ⟨e, he, rfl⟩)))
  have lc : (KK g).lookup e.cd = g e.cd := look (by
    unfold lits
    exact List.mem_append_right _ (List.mem_map.mpr ⟨e, he, rfl⟩))
  have f := fn_all c X G e he
  unfold fnAt at f
  split at f
  · rename_i fd _ e1
    obtain ⟨n1, n2, n3, n4, n5, n6, n7, n8, n9, n10, n11, n12, n13, n14, n15⟩ := fd
    have e2 : (some (n1, n2, n3, n4, n5, n6, n7, n15, n8, n13, codeAt g n13 n2) : FnR) = some (e.name, e.qual, defArgs e.st, .stmts (defBody e.st), defScope e.st, mainGlobals, [], builtinsNs, e.dfl, .ref e.cd, true) := f
    simp only [Option.some.injEq, Prod.mk.injEq] at e2
    obtain ⟨h1, h2, h3, h4, h5, h6, h7, h8, h9, h10, h11⟩ := e2
    subst h1 h2 h3 h4 h5 h6 h7 h8 h9 h10
    refine ⟨_, _, _, _, n9, n10, n11, n12, n14, lk.trans e1, rfl, ?_, ?_⟩
    · unfold PySem.W.codeIn
      simp only
      rw [lc]
      exact h11
    · unfold PySem.W.keepIn
      simp only
      rw [lk, e1]
  · cases f
theorem fun_of {e : FnE} (he : e ∈ fs) (hd : e.dfl = .none) : ∃ fd, Fun (KK g) e.name e.qual e.st e.at_ fd := by
  obtain ⟨fd, oc, od, osl, kV, doc, pm, an, ct, h1, h2, h3, h4⟩ := fun_at c X G he
  rw [hd] at h2
  exact ⟨fd, ⟨oc, od, kV, doc, pm, an, _, ct, osl, h2, h1, h3⟩, h4⟩
theorem df {x : Str} {st : Stmt} {a cd : Addr} (i : Nat) (he : fs[i]? = some ⟨a, cd, x, x, st, .none⟩) (hg : getE gl x.cps.toList = some (.ref a)) : Df (KK g) mg x st := by
  obtain ⟨fd, F⟩ := fun_of c X G (e := ⟨a, cd, x, x, st, .none⟩) (List.mem_of_getElem? he) rfl
  exact ⟨a, fd, F, gref c X G x a hg⟩
theorem dm {m q : Str} {st : Stmt} {a cd : Addr} (i : Nat) (he : fs[i]? = some ⟨a, cd, m, q, st, .none⟩) (j : Nat) (hj : (okB (KK g))[j]? = some (meB (KK g) CQ m a)) : Dm (KK g) m q st := by
  obtain ⟨fd, F⟩ := fun_of c X G (e := ⟨a, cd, m, q, st, .none⟩) (List.mem_of_getElem? he) rfl
  have k := okI c X G j _ hj
  unfold meB at k
  rw [Bool.and_eq_true] at k
  exact ⟨a, fd, F, eq_of_beq k.1, k.2⟩
theorem dp {m q : Str} {st : Stmt} {a cd p : Addr} (i : Nat) (he : fs[i]? = some ⟨a, cd, m, q, st, .none⟩) (j : Nat) (hj : (okB (KK g))[j]? = some (prB (KK g) CQ m p a)) : Dp (KK g) m q st := by
  obtain ⟨fd, F⟩ := fun_of c X G (e := ⟨a, cd, m, q, st, .none⟩) (List.mem_of_getElem? he) rfl
  have k := okI c X G j _ hj
  unfold prB at k
  rw [Bool.and_eq_true, Bool.and_eq_true, Bool.and_eq_true] at k
  obtain ⟨k1, k2, k3, k4⟩ := k
  refine ⟨p, a, fd, F, eq_of_beq k1, eq_of_beq k2, eq_of_beq k3, ?_⟩
  split at k4
  · rename_i h rest e
    rw [e]
    exact ⟨rest, by rw [eq_of_beq k4]⟩
  · cases k4
theorem mk_of {C f : Addr} (j : Nat) (hj : (okB (KK g))[j]? = some (mkB (KK g) C f)) : Mk (KK g) C f := by
  have k := okI c X G j _ hj
  unfold mkB at k
  rw [Bool.and_eq_true, Bool.and_eq_true, Bool.and_eq_true] at k
  exact ⟨k.1, eq_of_beq k.2.1, k.2.2.1, k.2.2.2⟩
theorem cls_of {C : Addr} (j : Nat) (hj : (okB (KK g))[j]? = some (clB (KK g) C)) : Cls (KK g) C := by
  have k := okI c X G j _ hj
  unfold clB at k
  rw [Bool.and_eq_true, Bool.and_eq_true, Bool.and_eq_true] at k
  exact ⟨k.1, k.2.1, k.2.2.1, eq_of_beq k.2.2.2⟩
theorem na_of {C : Addr} {f : Str} (j : Nat) (hj : (okB (KK g))[j]? = some (naB (KK g) C f)) : NoAttr (KK g) C f := by
  have k := okI c X G j _ hj
  unfold naB at k
  exact eq_of_beq k
theorem ty_of {C : Addr} (j i : Nat) (hj : (okB (KK g))[j]? = some (tyB (KK g) C)) (hi : (okB (KK g))[i]? = some (clB (KK g) C)) : TyIn (KK g) C := by
  have k := okI c X G j _ hj
  unfold tyB at k
  rw [Bool.and_eq_true] at k
  exact ⟨cls_of c X G i hi, eq_of_beq k.1, rfl, rfl, eq_of_beq k.2⟩
theorem di (i : Nat) (he : fs[i]? = some ⟨295, 294, "__init__", "Ratio.__init__", s_Ratio_init, .ref 288⟩) : Di (KK g) s_Ratio_init := by
  obtain ⟨fd, oc, od, osl, kV, doc, pm, an, ct, h1, h2, h3, h4⟩ := fun_at c X G (List.mem_of_getElem? he)
  exact ⟨295, fd, ⟨⟨oc, od, _, kV, doc, pm, an, _, ct, osl, h2, h1, h3, He.dflB_ok (okI c X G 20 _ rfl), .inl rfl⟩, h4⟩, mk_of c X G 11 rfl⟩
theorem dh (i : Nat) (he : fs[i]? = some ⟨621, 620, "__init__", "House.__init__", s_House_init, .none⟩) : Dh (KK g) s_House_init := by
  obtain ⟨fd, F⟩ := fun_of c X G (List.mem_of_getElem? he) rfl
  exact ⟨621, fd, F, mk_of c X G 12 rfl⟩
omit G X c in
theorem lack_ns {d : Addr} {bad : List (List Nat)} (hd : d ∈ lits) (e : lackAt g d bad = true) {b : Heap} (XB : (KK g).In b) : ∃ m : Str → Option Value, b.Ns d m ∧ ∀ x : Str, bad.contains x.cps.toList = true → m x = none := by
  unfold lackAt at e
  split at e
  · rename_i es ep sl e1
    have gb : b.get? d = _ := XB d _ ((look hd).trans e1)
    have all := List.all_eq_true.mp e
    have keys : ∀ en ∈ es.toList, ∃ s t, en.key = .str s t ∧ (bad.any fun b => b == s.cps.toList) = false := fun en hen => by
      have := all en hen
      split at this
      · rename_i k hk
        obtain ⟨s, t, h1, h2⟩ := key_str hk
        exact ⟨s, t, h1, by rw [h2]; simpa using this⟩
      · cases this
    refine ⟨nsFind es, ⟨_, es, ep, gb, rfl, fun en hen => ?_, fun _ => rfl⟩, fun x hx => ?_⟩
    · obtain ⟨s, t, h1, _⟩ := keys en (Array.mem_toList_iff.mpr hen)
      exact ⟨s, t, h1⟩
    · unfold nsFind findBy
      rw [← Array.find?_toList]
      rw [List.find?_eq_none.mpr fun en hen => ?_]
      · rfl
      · obtain ⟨s, t, h1, h2⟩ := keys en hen
        rw [h1]
        show ¬ (s == x) = true
        intro q
        rw [eq_of_beq q] at h2
        have h3 := List.any_eq_false.mp h2 _ (List.contains_iff_mem.mp hx)
        simp at h3
  · cases e
theorem seer {b : Heap} (XB : (KK g).In b) : Seer0 mg b := by
  obtain ⟨m1, a1, a2⟩ := lack_ns (lit_in 2 rfl) (c_sys c X G) XB
  obtain ⟨m2, b1, b2⟩ := lack_ns (lit_in 1 rfl) (c_mod c X G) XB
  have k := okI c X G 21 _ rfl
  refine ⟨⟨m1, a1, a2 _ (by decide +kernel), a2 _ (by decide +kernel)⟩, ⟨m2, b1, b2 _ (by decide +kernel)⟩, ?_⟩
  have hm := gref c X G "__builtins__" 4 (by decide +kernel)
  unfold modB at k
  split at k
  · rename_i n d e1 e2
    rw [Bool.and_eq_true] at k
    exact ⟨4, _, hm, XB 4 _ (by assumption), by rw [eq_of_beq k.1], by rw [eq_of_beq k.2]⟩
  · cases k
theorem tx {P : Program} (tree : P.given.tree = none) {b : Heap} (XB : (KK g).In b) : Tx P (KK g) mg b where
  len := gnone c X G "len" (by decide +kernel)
  zip := gnone c X G "zip" (by decide +kernel)
  range := gnone c X G "range" (by decide +kernel)
  enumerate := gnone c X G "enumerate" (by decide +kernel)
  isinstance := gnone c X G "isinstance" (by decide +kernel)
  sum := gnone c X G "sum" (by decide +kernel)
  any := gnone c X G "any" (by decide +kernel)
  all := gnone c X G "all" (by decide +kernel)
  abs := gnone c X G "abs" (by decide +kernel)
  max := gnone c X G "max" (by decide +kernel)
  divmod := gnone c X G "divmod" (by decide +kernel)
  sorted := gnone c X G "sorted" (by decide +kernel)
  repr := gnone c X G "repr" (by decide +kernel)
  int := gnone c X G "int" (by decide +kernel)
  bool := gnone c X G "bool" (by decide +kernel)
  list := gnone c X G "list" (by decide +kernel)
  tuple := gnone c X G "tuple" (by decide +kernel)
  gcd := gbi c X G "gcd" _ (by decide +kernel)
  lcm := gbi c X G "lcm" _ (by decide +kernel)
  clQ := cls_of c X G 0 rfl
  clH := cls_of c X G 1 rfl
  ntQ := na_of c X G 2 rfl
  nbQ := na_of c X G 3 rfl
  nlH := na_of c X G 4 rfl
  nwH := na_of c X G 5 rfl
  g_Ratio := gref c X G "Ratio" _ (by decide +kernel)
  g_House := gref c X G "House" _ (by decide +kernel)
  n_MOST_SIZE_tables := gint c X G "MOST_SIZE_tables" _ (by decide +kernel)
  n_MOST_SIZE_houses := gint c X G "MOST_SIZE_houses" _ (by decide +kernel)
  n_MOST_LETTERS := gint c X G "MOST_LETTERS" _ (by decide +kernel)
  n_MOST_ROWS := gint c X G "MOST_ROWS" _ (by decide +kernel)
  selfQ := okI c X G 6 _ rfl
  tiQ := ty_of c X G 7 0 rfl rfl
  tiH := ty_of c X G 8 1 rfl rfl
  isQI := eq_of_beq (okI c X G 9 _ rfl)
  isIQ := eq_of_beq (okI c X G 10 _ rfl)
  seer := seer c X G XB
  tree := tree
theorem law_ok {P : Program} {w : World} (tree : P.given.tree = none) {b : Heap} (XB : (KK g).In b) (PL : PlainLaw) : T_law P w (KK g) mg b := by
  have T : Tx P (KK g) mg b := tx c X G tree XB
  have t_is_list : T_is_list P w (KK g) mg b := ok_is_list T (df c X G 16 rfl (by decide +kernel))
  have t_is_integer : T_is_integer P w (KK g) mg b := ok_is_integer T (df c X G 15 rfl (by decide +kernel))
  have t_is_number : T_is_number P w (KK g) mg b := ok_is_number T (df c X G 19 rfl (by decide +kernel)) t_is_integer
  have t_are_numbers : T_are_numbers P w (KK g) mg b := ok_are_numbers T (df c X G 37 rfl (by decide +kernel)) t_is_number t_is_list
  have t_divisor_of : T_divisor_of P w (KK g) mg b := ok_divisor_of T (df c X G 0 rfl (by decide +kernel))
  have t_Ratio_init : T_Ratio_init P w (KK g) mg b := ok_Ratio_init T (di c X G 20 rfl) t_is_integer t_divisor_of
  have t_ratio_of : T_ratio_of P w (KK g) mg b := ok_ratio_of T (df c X G 28 rfl (by decide +kernel)) t_Ratio_init
  have t_table_in : T_table_in P w (KK g) mg b := ok_table_in T (df c X G 41 rfl (by decide +kernel)) t_is_list t_are_numbers t_ratio_of
  have t_letters_in : T_letters_in P w (KK g) mg b := ok_letters_in T (df c X G 51 rfl (by decide +kernel)) t_is_list t_table_in
  have t_House_init : T_House_init P w (KK g) mg b := ok_House_init T (dh c X G 52 rfl) t_letters_in
  have t__law_known : T__law_known P w (KK g) mg b := ok__law_known T (df c X G 84 rfl (by decide +kernel))
  have t__law_draw : T__law_draw P w (KK g) mg b := ok__law_draw T (df c X G 87 rfl (by decide +kernel))
  have t__law_kinds : T__law_kinds P w (KK g) mg b := ok__law_kinds T (df c X G 90 rfl (by decide +kernel)) t__law_known t__law_draw
  have t__law_beside : T__law_beside P w (KK g) mg b := ok__law_beside T (df c X G 85 rfl (by decide +kernel))
  have t__law_pick : T__law_pick P w (KK g) mg b := ok__law_pick T (df c X G 88 rfl (by decide +kernel)) t__law_draw
  have t__law_changed : T__law_changed P w (KK g) mg b := ok__law_changed T (df c X G 86 rfl (by decide +kernel))
  have t__law_letters : T__law_letters P w (KK g) mg b := ok__law_letters T (df c X G 91 rfl (by decide +kernel)) t__law_known t__law_beside t__law_draw t__law_pick t__law_changed
  have t_want_house : T_want_house P w (KK g) mg b := ok_want_house T (df c X G 53 rfl (by decide +kernel))
  have t_idle_of : T_idle_of P w (KK g) mg b := ok_idle_of T (df c X G 45 rfl (by decide +kernel)) t_Ratio_init
  have t_long_of : T_long_of P w (KK g) mg b := ok_long_of T (df c X G 49 rfl (by decide +kernel))
  have t_wholes : T_wholes P w (KK g) mg b := ok_wholes T (df c X G 29 rfl (by decide +kernel))
  have t_long_with : T_long_with P w (KK g) mg b := ok_long_with T (df c X G 60 rfl (by decide +kernel)) t_long_of t_wholes
  have t_bare_table : T_bare_table P w (KK g) mg b := ok_bare_table T (df c X G 42 rfl (by decide +kernel)) t_wholes
  have t_over_bottom : T_over_bottom P w (KK g) mg b := ok_over_bottom T (df c X G 44 rfl (by decide +kernel)) t_Ratio_init
  have t_int_product : T_int_product P w (KK g) mg b := ok_int_product T (df c X G 43 rfl (by decide +kernel))
  have t_product_of : T_product_of P w (KK g) mg b := ok_product_of T (df c X G 46 rfl (by decide +kernel)) t_bare_table t_over_bottom t_int_product
  have t_bare_row : T_bare_row P w (KK g) mg b := ok_bare_row T (df c X G 1 rfl (by decide +kernel)) t_divisor_of
  have t_cleared : T_cleared P w (KK g) mg b := ok_cleared T (df c X G 32 rfl (by decide +kernel)) t_bare_row
  have t_head_of : T_head_of P w (KK g) mg b := ok_head_of T (df c X G 35 rfl (by decide +kernel))
  have t_left_of : T_left_of P w (KK g) mg b := ok_left_of T (df c X G 59 rfl (by decide +kernel)) t_cleared t_head_of
  have t_base_with : T_base_with P w (KK g) mg b := ok_base_with T (df c X G 61 rfl (by decide +kernel)) t_idle_of t_long_with t_product_of t_left_of t_bare_row
  have t_base_of : T_base_of P w (KK g) mg b := ok_base_of T (df c X G 62 rfl (by decide +kernel)) t_base_with
  have t_told_rows : T_told_rows P w (KK g) mg b := ok_told_rows T (df c X G 36 rfl (by decide +kernel)) t_Ratio_init t_head_of
  have t_first_at : T_first_at P w (KK g) mg b := ok_first_at T (df c X G 33 rfl (by decide +kernel))
  have t_headed_row : T_headed_row P w (KK g) mg b := ok_headed_row T (df c X G 34 rfl (by decide +kernel)) t_bare_row
  have t_int_steps : T_int_steps P w (KK g) mg b := ok_int_steps T (df c X G 38 rfl (by decide +kernel)) t_first_at t_headed_row t_cleared
  have t_ints_of : T_ints_of P w (KK g) mg b := ok_ints_of T (df c X G 31 rfl (by decide +kernel)) t_wholes
  have t_steps_of : T_steps_of P w (KK g) mg b := ok_steps_of T (df c X G 39 rfl (by decide +kernel)) t_told_rows t_int_steps t_ints_of
  have t_rank_of : T_rank_of P w (KK g) mg b := ok_rank_of T (df c X G 11 rfl (by decide +kernel)) t_steps_of
  have t_told_pair : T_told_pair P w (KK g) mg b := ok_told_pair T (df c X G 18 rfl (by decide +kernel)) t_is_integer
  have t_mul : T_mul P w (KK g) mg b := ok_mul T (dm c X G 25 rfl 17 rfl) t_Ratio_init t_told_pair
  have t_add : T_add P w (KK g) mg b := ok_add T (dm c X G 23 rfl 15 rfl) t_Ratio_init t_told_pair
  have t_total_of : T_total_of P w (KK g) mg b := ok_total_of T (df c X G 30 rfl (by decide +kernel)) t_Ratio_init t_add
  have t_sum_of_two : T_sum_of_two P w (KK g) mg b := ok_sum_of_two T (df c X G 9 rfl (by decide +kernel)) t_mul t_total_of
  have t_sums_of : T_sums_of P w (KK g) mg b := ok_sums_of T (df c X G 10 rfl (by decide +kernel)) t_sum_of_two
  have t_parts_of : T_parts_of P w (KK g) mg b := ok_parts_of T (df c X G 12 rfl (by decide +kernel)) t_base_of t_rank_of t_sums_of
  have t_lead_rows : T_lead_rows P w (KK g) mg b := ok_lead_rows T (df c X G 66 rfl (by decide +kernel)) t_wholes t_long_of
  have t_neg : T_neg P w (KK g) mg b := ok_neg T (dm c X G 26 rfl 18 rfl) t_Ratio_init
  have t_top : T_top P w (KK g) mg b := ok_top T (dp c X G 21 rfl 13 rfl)
  have t_kernel_of : T_kernel_of P w (KK g) mg b := ok_kernel_of T (df c X G 40 rfl (by decide +kernel)) t_Ratio_init t_neg t_top t_steps_of t_head_of
  have t_short_of : T_short_of P w (KK g) mg b := ok_short_of T (df c X G 50 rfl (by decide +kernel))
  have t_leads_of : T_leads_of P w (KK g) mg b := ok_leads_of T (df c X G 67 rfl (by decide +kernel)) t_lead_rows t_kernel_of t_told_rows t_int_steps t_short_of
  have t_commuting_of : T_commuting_of P w (KK g) mg b := ok_commuting_of T (df c X G 68 rfl (by decide +kernel)) t_leads_of
  have t_long_ints : T_long_ints P w (KK g) mg b := ok_long_ints T (df c X G 58 rfl (by decide +kernel)) t_wholes t_long_of
  have t_int_lot : T_int_lot P w (KK g) mg b := ok_int_lot T (df c X G 63 rfl (by decide +kernel)) t_int_steps t_base_of t_long_ints
  have t_mixed_of : T_mixed_of P w (KK g) mg b := ok_mixed_of T (df c X G 47 rfl (by decide +kernel)) t_mul t_add
  have t_apart_of : T_apart_of P w (KK g) mg b := ok_apart_of T (df c X G 69 rfl (by decide +kernel)) t_Ratio_init t_long_of t_mixed_of t_product_of
  have t_sign : T_sign P w (KK g) mg b := ok_sign T (dp c X G 22 rfl 14 rfl)
  have t_mixed_row : T_mixed_row P w (KK g) mg b := ok_mixed_row T (df c X G 70 rfl (by decide +kernel)) t_Ratio_init t_mul t_add t_sign
  have t_middle_of : T_middle_of P w (KK g) mg b := ok_middle_of T (df c X G 71 rfl (by decide +kernel)) t_told_rows t_int_lot t_short_of t_apart_of t_kernel_of t_mixed_row t_steps_of
  have t_counts : T_counts P w (KK g) mg b := ok_counts T (df c X G 14 rfl (by decide +kernel)) t_want_house t_parts_of t_base_of t_commuting_of t_middle_of
  have t_dimension : T_dimension P w (KK g) mg b := ok_dimension T (df c X G 64 rfl (by decide +kernel)) t_base_of t_want_house
  have t_commuting : T_commuting P w (KK g) mg b := ok_commuting T (df c X G 72 rfl (by decide +kernel)) t_commuting_of t_want_house
  have t_middle : T_middle P w (KK g) mg b := ok_middle T (df c X G 73 rfl (by decide +kernel)) t_middle_of t_want_house
  have t_every_table : T_every_table P w (KK g) mg b := ok_every_table T (df c X G 65 rfl (by decide +kernel)) t_want_house t_base_of
  have t_parts : T_parts P w (KK g) mg b := ok_parts T (df c X G 13 rfl (by decide +kernel)) t_want_house t_parts_of
  have t_want_pair : T_want_pair P w (KK g) mg b := ok_want_pair T (df c X G 55 rfl (by decide +kernel)) t_want_house
  have t_want_at_most : T_want_at_most P w (KK g) mg b := ok_want_at_most T (df c X G 17 rfl (by decide +kernel))
  have t_house_of : T_house_of P w (KK g) mg b := ok_house_of T (df c X G 54 rfl (by decide +kernel)) t_House_init
  have t_on_line : T_on_line P w (KK g) mg b := ok_on_line T (df c X G 56 rfl (by decide +kernel)) t_Ratio_init
  have t_side : T_side P w (KK g) mg b := ok_side T (df c X G 57 rfl (by decide +kernel)) t_want_pair t_want_at_most t_house_of t_on_line
  have t_held_rows : T_held_rows P w (KK g) mg b := ok_held_rows T (df c X G 3 rfl (by decide +kernel)) t_Ratio_init
  have t_heads_of : T_heads_of P w (KK g) mg b := ok_heads_of T (df c X G 74 rfl (by decide +kernel)) t_sign
  have t_numbers_in : T_numbers_in P w (KK g) mg b := ok_numbers_in T (df c X G 75 rfl (by decide +kernel)) t_heads_of
  have t_led_by : T_led_by P w (KK g) mg b := ok_led_by T (df c X G 48 rfl (by decide +kernel)) t_product_of
  have t_cut_of : T_cut_of P w (KK g) mg b := ok_cut_of T (df c X G 83 rfl (by decide +kernel)) t_house_of t_numbers_in t_led_by
  have t_sub : T_sub P w (KK g) mg b := ok_sub T (dm c X G 24 rfl 16 rfl) t_Ratio_init t_told_pair
  have t_even_rows : T_even_rows P w (KK g) mg b := ok_even_rows T (df c X G 4 rfl (by decide +kernel)) t_Ratio_init t_sub
  have t_solution_of : T_solution_of P w (KK g) mg b := ok_solution_of T (df c X G 2 rfl (by decide +kernel)) t_Ratio_init t_top t_steps_of t_head_of
  have t_onto_of : T_onto_of P w (KK g) mg b := ok_onto_of T (df c X G 6 rfl (by decide +kernel)) t_Ratio_init t_held_rows t_cut_of t_even_rows t_solution_of t_product_of
  have t_about_of : T_about_of P w (KK g) mg b := ok_about_of T (df c X G 5 rfl (by decide +kernel))
  have t_partner_of : T_partner_of P w (KK g) mg b := ok_partner_of T (df c X G 7 rfl (by decide +kernel)) t_onto_of t_kernel_of t_about_of
  have t_eq : T_eq P w (KK g) mg b := ok_eq T (dm c X G 27 rfl 19 rfl)
  have t_rows_in : T_rows_in P w (KK g) mg b := ok_rows_in T (df c X G 80 rfl (by decide +kernel)) t_is_list t_are_numbers t_ratio_of
  have t_less_room : T_less_room P w (KK g) mg b := ok_less_room T (df c X G 76 rfl (by decide +kernel)) t_mul t_sub t_sign t_numbers_in
  have t_held : T_held P w (KK g) mg b := ok_held T (df c X G 77 rfl (by decide +kernel)) t_sign t_less_room
  have t_first_out : T_first_out P w (KK g) mg b := ok_first_out T (df c X G 78 rfl (by decide +kernel)) t_held t_led_by
  have t_is_kept : T_is_kept P w (KK g) mg b := ok_is_kept T (df c X G 79 rfl (by decide +kernel)) t_first_out
  have t_room_in : T_room_in P w (KK g) mg b := ok_room_in T (df c X G 81 rfl (by decide +kernel)) t_eq t_rows_in t_is_kept t_steps_of
  have t_want_kept : T_want_kept P w (KK g) mg b := ok_want_kept T (df c X G 82 rfl (by decide +kernel)) t_room_in
  have t_partner : T_partner P w (KK g) mg b := ok_partner T (df c X G 8 rfl (by decide +kernel)) t_want_house t_partner_of t_want_kept
  have t__law_right : T__law_right P w (KK g) mg b := ok__law_right T (df c X G 92 rfl (by decide +kernel)) PL t_House_init t__law_kinds t__law_draw t__law_letters t__law_known t_counts t_dimension t_commuting t_middle t_every_table t_parts t_side t_partner
  have t__law_pot : T__law_pot P w (KK g) mg b := ok__law_pot T (df c X G 89 rfl (by decide +kernel))
  have t_law : T_law P w (KK g) mg b := ok_law T (df c X G 93 rfl (by decide +kernel)) t__law_right t__law_pot
  exact t_law
theorem d_law : Df (KK g) mg "law" s_law := df c X G 93 rfl (by decide +kernel)
end
end TH
set_option Elab.async false
set_option linter.all false
set_option maxRecDepth 100000
set_option maxHeartbeats 0
namespace TH
open PySem PySem.Spec PyProof.Rows L2 TW
theorem look_eq {K : PySem.W.Frag} {f : Addr} {a b : FuncData} {oc oc2 : Value} {od od2 : Option Addr} {sl sl2 : Array (Option Value)} (h1 : K.lookup f = some ⟨oc, od, .func a, sl⟩) (h2 : K.lookup f = some ⟨oc2, od2, .func b, sl2⟩) : a = b := by
  rw [h1] at h2
  cases h2
  rfl
end TH
namespace TH
open PySem PySem.W PySem.Calls PyProof.Rows
abbrev RR : OpenRow := OpenLaw.row PySem.Challenge.rw_tracewords_k02_whole_houses_of_blocks
theorem f_def : defOf (view RR.prog [124]) RR.name = some (HandSHeadRun.topDef RR.prog 124, []) := by kernel_rfl
theorem f_p : RR.prog.theDef RR.name = some ((HandSHeadRun.topDef RR.prog 124).params, (HandSHeadRun.topDef RR.prog 124).body, (HandSHeadRun.topDef RR.prog 124).scope) := by kernel_rfl
theorem f_k : kwWritten? (HandSHeadRun.topDef RR.prog 124).params.kwonlyargs (HandSHeadRun.topDef RR.prog 124).params.kw_defaults = some [] := by kernel_rfl
theorem f_wr : (!RR.writes || RR.records.isEmpty) = true := by rfl
theorem f_ok : (chainsOk (view RR.prog [124]) && opensWell RR.prog && (frees RR.toRowW && RR.within.isEmpty)) = true := by decide +kernel
theorem f_b : RR.prog.bare := ⟨rfl, rfl, rfl, rfl, rfl, by decide +kernel⟩
theorem f_name : (HandSHeadRun.topDef RR.prog 124).name = ("law" : PySem.Str) := by kernel_rfl
theorem f_tree : (PySem.Challenge.rw_tracewords_k02_whole_houses_of_blocks).prog.given.tree = none := by kernel_rfl
theorem f_dfl : (HandSHeadRun.topDef RR.prog 124).params.defaults = [] := by kernel_rfl
end TH
section
open PySem PySem.W PySem.Calls PyProof.Rows
theorem fin_holds (PL : TW.PlainLaw) : PySem.Challenge.rw_tracewords_k02_whole_houses_of_blocks.Holds := by
  w_on; o_law
  refine HandSHeadRun.head_imp (r := OpenLaw.row PySem.Challenge.rw_tracewords_k02_whole_houses_of_blocks) (q := view (OpenLaw.row PySem.Challenge.rw_tracewords_k02_whole_houses_of_blocks).prog [124]) (H := TH.hook) (ob := TH.ob) (M := 8000) (loose := TH.lo) (d := HandSHeadRun.topDef (OpenLaw.row PySem.Challenge.rw_tracewords_k02_whole_houses_of_blocks).prog 124) (kwd := []) TH.ob_eq
    TH.run TH.f_def TH.f_p TH.f_k TH.f_wr (by assumption) TH.f_ok TH.f_b ?hw ?hc
  case hw => w_witness2
  case hc =>
    refine TW.walk_ofG (l := PySem.Challenge.rw_tracewords_k02_whole_houses_of_blocks) (n := 63) (k := 55) (x := "_law_script") rfl (by decide) TH.f_dfl ⟨rfl, by decide, by decide⟩ ?F
    intro w mg fa h Y G hmg0
    obtain ⟨g, hg, c⟩ := Y
    have hmg : mg ("law" : PySem.Str) = some (.ref fa) := by
      rw [← TH.f_name]
      exact hmg0
    have KX : (TH.KK g).In h := fun a o e => hg a o (He.frG_at _ e)
    have tree : (PySem.Challenge.rw_tracewords_k02_whole_houses_of_blocks).prog.given.tree = none := TH.f_tree
    obtain ⟨f, fd, h1, h2, h3, h4, oc, od, sl, h5⟩ := (TH.law_ok (P := (PySem.Challenge.rw_tracewords_k02_whole_houses_of_blocks).prog) (w := w) c KX G tree KX PL).ex
    rw [hmg] at h1
    cases h1
    refine ⟨TH.KK g, fd, TW.sp_law (TH.KK g), KX, ?B, ?S, ?N⟩
    case B =>
      intro s u
      obtain ⟨f2, fd2, F2, m2⟩ := (TH.d_law c KX G).ex
      rw [hmg] at m2
      cases m2
      obtain ⟨oc2, od2, kV, doc, pm, an, cdv, ct, osl, e2, lk2, _⟩ := F2.ex
      rw [TH.look_eq h5 lk2, e2]
      exact .of_eq rfl
    case S =>
      intro H a ns hl only hS
      exact ⟨a, ns, rfl, hS, by omega, only, fun _ => rfl⟩
    case N =>
      intro base XB _
      obtain ⟨f', fd', k1, k2, k3, k4, oc', od', sl', k5⟩ := (TH.law_ok (P := (PySem.Challenge.rw_tracewords_k02_whole_houses_of_blocks).prog) (w := w) c KX G tree XB PL).ex
      rw [hmg] at k1
      cases k1
      rw [TH.look_eq h5 k5]
      exact k4
end
set_option Elab.async false
set_option linter.all false
set_option maxRecDepth 100000
/-! Plain linear algebra over Rat: spans, dimension by the trace. -/
namespace LA
abbrev V := Nat → Rat
inductive Sp (B : V → Prop) : V → Prop
  | zero : Sp B (fun _ => 0)
  | comb (a : Rat) {u v : V} : B u → Sp B v → Sp B (fun i => a * u i + v i)
def Lin (f : V → V) : Prop := ∀ (a : Rat) (u v : V), f (fun i => a * u i + v i) = fun i => a * f u i + f v i
def LinF (f : V → Rat) : Prop := ∀ (a : Rat) (u v : V), f (fun i => a * u i + v i) = a * f u + f v
theorem Sp.cast {B : V → Prop} {u v : V} (h : Sp B u) (e : ∀ i, v i = u i) : Sp B v := by
  have : v = u := funext e
  rw [this]; exact h
theorem Sp.add {B : V → Prop} (a : Rat) {u v : V} (h : Sp B u) (k : Sp B v) : Sp B (fun i => a * u i + v i) := by
  induction h with
  | zero => exact k.cast fun i => by grind
  | comb b hb _ ih => exact (Sp.comb (a * b) hb ih).cast fun i => by grind
theorem Sp.mem {B : V → Prop} {u : V} (h : B u) : Sp B u := (Sp.comb 1 h .zero).cast fun i => by grind
theorem Sp.smul {B : V → Prop} (a : Rat) {u : V} (h : Sp B u) : Sp B (fun i => a * u i) := (Sp.add a h .zero).cast fun i => by grind
theorem Sp.sum {B : V → Prop} {u v : V} (h : Sp B u) (k : Sp B v) : Sp B (fun i => u i + v i) := (Sp.add 1 h k).cast fun i => by grind
theorem Sp.sub {B : V → Prop} {u v : V} (h : Sp B u) (k : Sp B v) : Sp B (fun i => u i - v i) := (Sp.add (-1) k h).cast fun i => by grind
theorem Lin.zero {f : V → V} (hf : Lin f) (i : Nat) : f (fun _ => 0) i = 0 := by
  have h := congrFun (hf (-1) (fun _ => 0) (fun _ => 0)) i
  have e : (fun _ : Nat => (-1 : Rat) * 0 + 0) = fun _ => 0 := by funext i; grind
  simp only [e] at h
  grind
theorem LinF.zero {f : V → Rat} (hf : LinF f) : f (fun _ => 0) = 0 := by
  have h := hf (-1) (fun _ => 0) (fun _ => 0)
  have e : (fun _ : Nat => (-1 : Rat) * 0 + 0) = fun _ => 0 := by funext i; grind
  simp only [e] at h
  grind
theorem Sp.map {B C : V → Prop} {f : V → V} (hf : Lin f) (h : ∀ u, B u → Sp C (f u)) {v : V} (k : Sp B v) : Sp C (f v) := by
  induction k with
  | zero => exact Sp.zero.cast hf.zero
  | comb a hb _ ih => rw [hf]; exact Sp.add a (h _ hb) ih
theorem Sp.mono {B C : V → Prop} (h : ∀ u, B u → Sp C u) {v : V} (k : Sp B v) : Sp C v := Sp.map (f := fun v => v) (fun _ _ _ => rfl) h k
theorem Sp.all {B C : V → Prop} (h0 : C fun _ => 0) (hc : ∀ (a : Rat) u v, B u → C v → C fun i => a * u i + v i) {v : V} (k : Sp B v) : C v := by
  induction k with
  | zero => exact h0
  | comb a hb _ ih => exact hc a _ _ hb ih
/-- a linear form that is 0 on the makers is 0 on all -/
theorem Sp.null {B : V → Prop} {f : V → Rat} (hf : LinF f) (h : ∀ u, B u → f u = 0) {v : V} (k : Sp B v) : f v = 0 :=
  Sp.all (C := fun v => f v = 0) hf.zero (fun a u v hu hv => by rw [hf, h u hu, hv]; grind) k
theorem linF_at (i : Nat) : LinF fun v => v i := fun _ _ _ => rfl
theorem LinF.scale {f : V → Rat} (hf : LinF f) (c : Rat) : LinF fun v => f v * c := fun a u v => by
  show f _ * c = _
  rw [hf]; grind
/-! sums over lists -/
def sumL {α : Type} (l : List α) (f : α → Rat) : Rat := match l with
  | [] => 0
  | a :: t => f a + sumL t f
section
variable {α β : Type}
theorem sumL_nil (f : α → Rat) : sumL [] f = 0 := rfl
theorem sumL_cons (a : α) (l : List α) (f : α → Rat) : sumL (a :: l) f = f a + sumL l f := rfl
theorem sumL_append (l m : List α) (f : α → Rat) : sumL (l ++ m) f = sumL l f + sumL m f := by
  induction l with
  | nil => rw [List.nil_append, sumL_nil]; grind
  | cons a l ih => rw [List.cons_append, sumL_cons, sumL_cons, ih]; grind
theorem sumL_zero {l : List α} {f : α → Rat} (h : ∀ a ∈ l, f a = 0) : sumL l f = 0 := by
  induction l with
  | nil => rfl
  | cons a l ih => rw [sumL_cons, h a (List.mem_cons_self ..), ih fun b hb => h b (List.mem_cons_of_mem _ hb)]; grind
theorem sumL_congr {l : List α} {f g : α → Rat} (h : ∀ a ∈ l, f a = g a) : sumL l f = sumL l g := by
  induction l with
  | nil => rfl
  | cons a l ih => rw [sumL_cons, sumL_cons, h a (List.mem_cons_self ..), ih fun b hb => h b (List.mem_cons_of_mem _ hb)]
theorem sumL_add (l : List α) (f g : α → Rat) : sumL l (fun a => f a + g a) = sumL l f + sumL l g := by
  induction l with
  | nil => rw [sumL_nil, sumL_nil, sumL_nil]; grind
  | cons a l ih => rw [sumL_cons, sumL_cons, sumL_cons, ih]; grind
theorem sumL_mul (c : Rat) (l : List α) (f : α → Rat) : sumL l (fun a => c * f a) = c * sumL l f := by
  induction l with
  | nil => rw [sumL_nil, sumL_nil]; grind
  | cons a l ih => rw [sumL_cons, sumL_cons, ih]; grind
theorem sumL_swap (l : List α) (m : List β) (f : α → β → Rat) : sumL l (fun a => sumL m (f a)) = sumL m (fun b => sumL l (fun a => f a b)) := by
  induction l with
  | nil => rw [sumL_nil]; exact (sumL_zero fun b _ => rfl).symm
  | cons a l ih => rw [sumL_cons, ih, ← sumL_add]; rfl
theorem sumL_map (g : β → α) (l : List β) (f : α → Rat) : sumL (l.map g) f = sumL l (fun b => f (g b)) := by
  induction l with
  | nil => rfl
  | cons a l ih => rw [List.map_cons, sumL_cons, sumL_cons, ih]
theorem sumL_one (l : List α) : sumL l (fun _ => 1) = (l.length : Rat) := by
  induction l with
  | nil => rfl
  | cons a l ih => rw [sumL_cons, ih, List.length_cons, Rat.natCast_add]; grind
theorem Lin.sum {f : V → V} (hf : Lin f) (l : List α) (c : α → Rat) (e : α → V) : f (fun i => sumL l (fun p => c p * e p i)) = fun i => sumL l (fun p => c p * f (e p) i) := by
  induction l with
  | nil => exact funext hf.zero
  | cons a l ih => exact (hf (c a) (e a) _).trans (by rw [ih]; rfl)
theorem LinF.sum {f : V → Rat} (hf : LinF f) (l : List α) (c : α → Rat) (e : α → V) : f (fun i => sumL l (fun p => c p * e p i)) = sumL l (fun p => c p * f (e p)) := by
  induction l with
  | nil => exact hf.zero
  | cons a l ih => exact (hf (c a) (e a) _).trans (by rw [ih]; rfl)
end
/-! dimension -/
def HasDim (S : V → Prop) (n : Nat) : Prop := ∃ D : List (V × (V → Rat)), D.length = n ∧ (∀ p ∈ D, S p.1 ∧ LinF p.2 ∧ p.2 p.1 = 1) ∧ ∀ v, S v → ∀ i, v i = sumL D (fun p => p.2 v * p.1 i)
theorem HasDim.unique {S : V → Prop} {n m : Nat} (h : HasDim S n) (k : HasDim S m) : n = m := by
  obtain ⟨D, rfl, h1, h2⟩ := h
  obtain ⟨E, rfl, k1, k2⟩ := k
  have hD : sumL D (fun p => sumL E (fun q => q.2 p.1 * p.2 q.1)) = (D.length : Rat) := by
    rw [← sumL_one]
    refine sumL_congr fun p hp => ?_
    obtain ⟨a, b, c⟩ := h1 p hp
    have e : p.1 = fun i => sumL E (fun q => q.2 p.1 * q.1 i) := funext (k2 _ a)
    have := b.sum E (fun q => q.2 p.1) (fun q => q.1)
    rw [← e] at this
    rw [← this, c]
  have hE : sumL E (fun q => sumL D (fun p => p.2 q.1 * q.2 p.1)) = (E.length : Rat) := by
    rw [← sumL_one]
    refine sumL_congr fun p hp => ?_
    obtain ⟨a, b, c⟩ := k1 p hp
    have e : p.1 = fun i => sumL D (fun q => q.2 p.1 * q.1 i) := funext (h2 _ a)
    have := b.sum D (fun q => q.2 p.1) (fun q => q.1)
    rw [← e] at this
    rw [← this, c]
  have hh : (D.length : Rat) = (E.length : Rat) := by
    rw [← hD, ← hE, sumL_swap]
    exact sumL_congr fun q _ => sumL_congr fun p _ => by grind
  exact Rat.natCast_inj.mp hh
theorem HasDim.move {S S' : V → Prop} {n : Nat} {f g : V → V} (h : HasDim S n) (hf : Lin f) (hg : Lin g) (hs : ∀ v, S v → S' (f v)) (ks : ∀ v, S' v → S (g v)) (fg : ∀ v, S' v → f (g v) = v) (gf : ∀ v, S v → g (f v) = v) : HasDim S' n := by
  obtain ⟨D, rfl, h1, h2⟩ := h
  refine ⟨D.map fun p => (f p.1, fun w => p.2 (g w)), List.length_map .., fun p hp => ?_, fun v hv i => ?_⟩
  · obtain ⟨q, hq, rfl⟩ := List.mem_map.mp hp
    obtain ⟨a, b, c⟩ := h1 q hq
    refine ⟨hs _ a, fun a u v => ?_, ?_⟩
    · show q.2 (g _) = _
      rw [hg, b]
    · show q.2 (g (f q.1)) = 1
      rw [gf _ a, c]
  · have e : g v = fun i => sumL D (fun p => p.2 (g v) * p.1 i) := funext (h2 _ (ks v hv))
    have e2 := hf.sum D (fun p => p.2 (g v)) (fun p => p.1)
    rw [← e, fg v hv] at e2
    rw [sumL_map]
    exact congrFun e2 i
theorem HasDim.congr {S S' : V → Prop} {n : Nat} (h : HasDim S n) (e : ∀ v, S v ↔ S' v) : HasDim S' n := by
  have : S = S' := funext fun v => propext (e v)
  rw [← this]; exact h
/-- rows with places, each 0 at the others' places -/
def OfD (D : List (V × Nat)) (v : V) : Prop := ∃ p ∈ D, p.1 = v
theorem dual_row {D : List (V × Nat)} (nz : ∀ p ∈ D, p.1 p.2 ≠ 0) (pw : D.Pairwise fun p q => p.1 q.2 = 0 ∧ q.1 p.2 = 0) {p : V × Nat} (hp : p ∈ D) (i : Nat) : p.1 i = sumL D (fun q => p.1 q.2 * (q.1 q.2)⁻¹ * q.1 i) := by
  induction D with
  | nil => cases hp
  | cons d D ih =>
    rw [sumL_cons]
    obtain ⟨h1, h2⟩ := List.pairwise_cons.mp pw
    rcases List.mem_cons.mp hp with rfl | h
    · rw [sumL_zero fun q hq => by rw [(h1 q hq).1]; grind]
      have := nz p (List.mem_cons_self ..)
      grind
    · rw [← ih (fun q hq => nz q (List.mem_cons_of_mem _ hq)) h2 h, (h1 p h).2]
      grind
theorem dual_dim {D : List (V × Nat)} (nz : ∀ p ∈ D, p.1 p.2 ≠ 0) (pw : D.Pairwise fun p q => p.1 q.2 = 0 ∧ q.1 p.2 = 0) : HasDim (Sp (OfD D)) D.length := by
  refine ⟨D.map fun p => (p.1, fun v => v p.2 * (p.1 p.2)⁻¹), List.length_map .., fun p hp => ?_, fun v hv => ?_⟩
  · obtain ⟨q, hq, rfl⟩ := List.mem_map.mp hp
    refine ⟨Sp.mem ⟨q, hq, rfl⟩, (linF_at q.2).scale _, ?_⟩
    have := nz q hq
    show q.1 q.2 * (q.1 q.2)⁻¹ = 1
    grind
  · refine Sp.all (C := fun v => ∀ i, v i = sumL (D.map fun p => (p.1, fun v : V => v p.2 * (p.1 p.2)⁻¹)) (fun p => p.2 v * p.1 i)) (fun i => ?_) (fun a u v ⟨p, hp, e⟩ ih i => ?_) hv
    · rw [sumL_map]
      exact (sumL_zero fun q _ => by grind).symm
    · subst e
      show a * p.1 i + v i = _
      rw [ih i, dual_row nz pw hp i, sumL_map, sumL_map, ← sumL_mul, ← sumL_add]
      exact sumL_congr fun q _ => by grind
end LA
set_option Elab.async false
set_option linter.all false
set_option maxRecDepth 100000
/-! Rows of whole numbers: bare, cleared, what is left, steps. -/
namespace PL
open TW LA
open L2 hiding V
def an (r : List Int) (i : Nat) : Int := (r[i]?).getD 0
def aq (r : List Rat) (i : Nat) : Rat := (r[i]?).getD 0
def hd (r : List Int) : Nat := r.findIdx fun x => decide (x ≠ 0)
def vI (r : List Int) : V := fun i => (an r i : Rat)
def vQ (r : List Rat) : V := fun i => aq r i
def OfI (L : List (List Int)) (v : V) : Prop := ∃ r ∈ L, vI r = v
abbrev SpI (L : List (List Int)) : V → Prop := Sp (OfI L)
theorem at0_nat (r : List Int) (p : Nat) : at0 r (p : Int) = an r p := rfl
theorem head_nat (r : List Int) : m_head_of r = (hd r : Int) := rfl
theorem an_lt {r : List Int} {i : Nat} (h : i < r.length) : an r i = r[i] := by unfold an; rw [List.getElem?_eq_getElem h]; rfl
theorem an_ge {r : List Int} {i : Nat} (h : r.length ≤ i) : an r i = 0 := by unfold an; rw [List.getElem?_eq_none h]; rfl
theorem an_map {r : List Int} (f : Int → Int) (h0 : f 0 = 0) (i : Nat) : an (r.map f) i = f (an r i) := by
  unfold an
  rw [List.getElem?_map]
  cases r[i]? with
  | none => exact h0.symm
  | some x => rfl
theorem an_mem {r : List Int} {i : Nat} (h : i < r.length) : an r i ∈ r := by rw [an_lt h]; exact List.getElem_mem _
theorem mem_an {r : List Int} {x : Int} (h : x ∈ r) : ∃ i, i < r.length ∧ an r i = x := by
  obtain ⟨i, hi, e⟩ := List.mem_iff_getElem.mp h
  exact ⟨i, hi, by rw [an_lt hi, e]⟩
theorem vI_ge {r : List Int} {i : Nat} (h : r.length ≤ i) : vI r i = 0 := by unfold vI; rw [an_ge h]; rfl
theorem cast_ne {a : Int} (h : a ≠ 0) : (a : Rat) ≠ 0 := fun e => h (by exact_mod_cast e)
/-! bare -/
theorem gcdF (r : List Int) : ∀ c : Int, 0 ≤ c → 0 ≤ r.foldl (fun c n => if n = 0 then c else m_divisor_of c n) c ∧ (r.foldl (fun c n => if n = 0 then c else m_divisor_of c n) c ∣ c) ∧ ∀ x ∈ r, r.foldl (fun c n => if n = 0 then c else m_divisor_of c n) c ∣ x := by
  induction r with
  | nil => exact fun c h => ⟨h, Int.dvd_refl _, fun x hx => nomatch hx⟩
  | cons n r ih =>
    intro c hc
    rw [List.foldl_cons]
    by_cases h : n = 0
    · rw [if_pos h]
      obtain ⟨a, b, d⟩ := ih c hc
      refine ⟨a, b, fun x hx => ?_⟩
      rcases List.mem_cons.mp hx with rfl | hx
      · rw [h]; exact Int.dvd_zero _
      · exact d x hx
    · rw [if_neg h]
      have e1 : m_divisor_of c n ∣ c := Int.ofNat_dvd_left.mpr (Nat.gcd_dvd_left _ _)
      have e2 : m_divisor_of c n ∣ n := Int.ofNat_dvd_left.mpr (Nat.gcd_dvd_right _ _)
      obtain ⟨a, b, d⟩ := ih (m_divisor_of c n) (Int.natCast_nonneg _)
      refine ⟨a, Int.dvd_trans b e1, fun x hx => ?_⟩
      rcases List.mem_cons.mp hx with rfl | hx
      · exact Int.dvd_trans b e2
      · exact d x hx
theorem bare_spec (r : List Int) : (m_bare_row r).length = r.length ∧ ∃ g : Int, 0 < g ∧ ∀ i, an r i = g * an (m_bare_row r) i := by
  unfold m_bare_row
  by_cases h : 1 < gcdL r
  · rw [if_pos h]
    refine ⟨List.length_map .., gcdL r, by omega, fun i => ?_⟩
    rw [an_map (fun n => n.fdiv (gcdL r)) (Int.zero_fdiv _)]
    by_cases hi : i < r.length
    · obtain ⟨_, _, d⟩ := gcdF r 0 (by omega)
      obtain ⟨k, hk⟩ := d _ (an_mem hi)
      have hg : r.foldl (fun c n => if n = 0 then c else m_divisor_of c n) 0 = gcdL r := rfl
      rw [hg] at hk
      rw [hk, Int.mul_fdiv_cancel_left _ (by omega)]
    · rw [an_ge (by omega)]; simp
  · rw [if_neg h]
    exact ⟨rfl, 1, by omega, fun i => by omega⟩
/-! cleared -/
theorem an_zip {r s : List Int} (f : Int × Int → Int) (h0 : f (0, 0) = 0) (hl : r.length = s.length) (i : Nat) : an ((r.zip s).map f) i = f (an r i, an s i) := by
  by_cases hi : i < r.length
  · rw [an_lt (by simp; omega), List.getElem_map, List.getElem_zip, an_lt hi, an_lt (by omega)]
  · rw [an_ge (by simp; omega), an_ge (by omega), an_ge (by omega), h0]
theorem cleared_spec {row head : List Int} {p : Nat} (hl : row.length = head.length) (hp : an head p ≠ 0) : (m_cleared row head (p : Int)).length = row.length ∧ an (m_cleared row head (p : Int)) p = 0 ∧
    ∃ g a b : Int, 0 < g ∧ a ≠ 0 ∧ (0 < an head p → 0 < a) ∧ ∀ i, g * an (m_cleared row head (p : Int)) i = a * an row i - b * an head i := by
  unfold m_cleared
  rw [at0_nat, at0_nat]
  by_cases h : an row p = 0
  · rw [if_pos h]
    exact ⟨rfl, h, 1, 1, 0, by omega, by omega, fun _ => by omega, fun i => by omega⟩
  · rw [if_neg h]
    obtain ⟨e, g, hg, k⟩ := bare_spec ((row.zip head).map fun q => an head p * q.1 - an row p * q.2)
    have z : ∀ i, g * an (m_bare_row ((row.zip head).map fun q => an head p * q.1 - an row p * q.2)) i = an head p * an row i - an row p * an head i := fun i => by
      rw [← k, an_zip _ (by simp) hl]
    refine ⟨by rw [e, List.length_map, List.length_zip]; omega, ?_, g, an head p, an row p, hg, hp, fun h => h, z⟩
    have := z p
    rw [Int.mul_comm (an row p), Int.sub_self] at this
    rcases Int.mul_eq_zero.mp this with h | h
    · omega
    · exact h
theorem comb_of {c row head : List Int} {g a b : Int} (hg : 0 < g) (h : ∀ i, g * an c i = a * an row i - b * an head i) (i : Nat) : vI c i = ((a : Rat) * (g : Rat)⁻¹) * vI row i + ((-b : Rat) * (g : Rat)⁻¹) * vI head i := by
  have e := congrArg (fun x : Int => (x : Rat)) (h i)
  simp only [Rat.intCast_mul, Rat.intCast_sub] at e
  have := cast_ne (a := g) (by omega)
  unfold vI
  grind
/-! heads -/
theorem hd_lt {r : List Int} (h : ∃ i, an r i ≠ 0) : an r (hd r) ≠ 0 := by
  obtain ⟨i, hi⟩ := h
  have hl : i < r.length := by
    apply Classical.byContradiction
    intro c
    exact hi (an_ge (by omega))
  have : hd r < r.length := by
    unfold hd
    rw [List.findIdx_lt_length]
    exact ⟨_, an_mem hl, decide_eq_true hi⟩
  have e := List.findIdx_getElem (p := fun x : Int => decide (x ≠ 0)) (w := this)
  rw [an_lt this]
  exact of_decide_eq_true e
theorem hd_before {r : List Int} {m : Nat} (h : m < hd r) : an r m = 0 := by
  have := List.not_of_lt_findIdx h
  have hl : m < r.length := Nat.lt_of_lt_of_le h List.findIdx_le_length
  rw [an_lt hl]
  simpa using this
theorem hd_eq {r : List Int} {p : Nat} (h : an r p ≠ 0) (z : ∀ m, m < p → an r m = 0) : hd r = p := by
  have h1 := hd_lt ⟨p, h⟩
  rcases Nat.lt_trichotomy (hd r) p with h2 | h2 | h2
  · exact absurd (z _ h2) h1
  · exact h2
  · exact absurd (hd_before h2) h
/-! what is left -/
structure Tri (W : Nat) (S : List (List Int)) : Prop where
  wd : ∀ s ∈ S, s.length = W ∧ an s (hd s) ≠ 0
  pw : S.Pairwise fun s t => an t (hd s) = 0
theorem Tri.tail {W : Nat} {s : List Int} {S : List (List Int)} (h : Tri W (s :: S)) : Tri W S := ⟨fun t ht => h.wd t (List.mem_cons_of_mem _ ht), (List.pairwise_cons.mp h.pw).2⟩
theorem spI_tail {s : List Int} {S : List (List Int)} {v : V} (h : SpI S v) : SpI (s :: S) v := h.mono fun _ ⟨r, hr, e⟩ => Sp.mem ⟨r, List.mem_cons_of_mem _ hr, e⟩
theorem spI_head (s : List Int) (S : List (List Int)) : SpI (s :: S) (vI s) := Sp.mem ⟨s, List.mem_cons_self .., rfl⟩
theorem spI_cons {s : List Int} {S : List (List Int)} {v : V} (h : SpI (s :: S) v) : ∃ (c : Rat) (w : V), SpI S w ∧ ∀ i, v i = c * vI s i + w i := by
  refine Sp.all (C := fun v => ∃ (c : Rat) (w : V), SpI S w ∧ ∀ i, v i = c * vI s i + w i) ⟨0, _, .zero, fun i => by grind⟩ (fun a u v ⟨r, hr, e⟩ ⟨c, w, hw, k⟩ => ?_) h
  rcases List.mem_cons.mp hr with rfl | hr
  · exact ⟨a + c, w, hw, fun i => by show a * u i + v i = _; rw [k, ← e]; grind⟩
  · exact ⟨c, _, Sp.add a (Sp.mem ⟨r, hr, e⟩) hw, fun i => by show a * u i + v i = _; rw [k]; grind⟩
theorem spI_null {S : List (List Int)} {p : Nat} {v : V} (z : ∀ s ∈ S, an s p = 0) (h : SpI S v) : v p = 0 :=
  Sp.null (linF_at p) (fun u ⟨r, hr, e⟩ => by rw [← e]; show (an r p : Rat) = 0; rw [z r hr]; rfl) h
theorem tri_zero {W : Nat} {S : List (List Int)} (T : Tri W S) {v : V} (h : SpI S v) (z : ∀ s ∈ S, v (hd s) = 0) (i : Nat) : v i = 0 := by
  induction S generalizing v with
  | nil => exact Sp.all (C := fun v => v i = 0) rfl (fun a u v ⟨r, hr, _⟩ _ => nomatch hr) h
  | cons s S ih =>
    obtain ⟨c, w, hw, k⟩ := spI_cons h
    have w0 : w (hd s) = 0 := spI_null (fun t ht => (List.pairwise_cons.mp T.pw).1 t ht) hw
    have h0 := z s (List.mem_cons_self ..)
    rw [k, w0] at h0
    have nz : vI s (hd s) ≠ 0 := cast_ne (T.wd s (List.mem_cons_self ..)).2
    have c0 : c = 0 := by grind
    have e : v = w := funext fun j => by rw [k, c0]; grind
    rw [e]
    exact ih T.tail hw fun t ht => by rw [← e]; exact z t (List.mem_cons_of_mem _ ht)
theorem left_spec {W : Nat} {S : List (List Int)} (T : Tri W S) : ∀ {row : List Int}, row.length = W → (m_left_of S row).length = W ∧ (∃ (a : Rat) (w : V), a ≠ 0 ∧ SpI S w ∧ ∀ i, vI (m_left_of S row) i = a * vI row i + w i) ∧ ∀ s ∈ S, an (m_left_of S row) (hd s) = 0 := by
  induction S with
  | nil => exact fun {row} hl => ⟨hl, ⟨1, _, by decide, .zero, fun i => by show vI row i = _; grind⟩, fun s hs => nomatch hs⟩
  | cons s S ih =>
    intro row hl
    obtain ⟨w1, w2⟩ := T.wd s (List.mem_cons_self ..)
    obtain ⟨c1, c2, g, a, b, hg, ha, _, k⟩ := cleared_spec (row := row) (head := s) (p := hd s) (by rw [hl, w1]) w2
    have kc := comb_of hg k
    obtain ⟨l1, ⟨a', w, ha', hw, k'⟩, l3⟩ := ih T.tail (row := m_cleared row s (hd s : Int)) (by rw [c1, hl])
    have eq : m_left_of (s :: S) row = m_left_of S (m_cleared row s (hd s : Int)) := rfl
    rw [eq]
    refine ⟨l1, ⟨a' * ((a : Rat) * (g : Rat)⁻¹), _, ?_, Sp.add (a' * ((-b : Rat) * (g : Rat)⁻¹)) (spI_head s S) (spI_tail hw), fun i => by rw [k', kc]; grind⟩, fun t ht => ?_⟩
    · have h1 := cast_ne ha
      have h2 := cast_ne (a := g) (by omega)
      grind
    · rcases List.mem_cons.mp ht with rfl | ht
      · have h := k' (hd t)
        rw [spI_null (fun u hu => (List.pairwise_cons.mp T.pw).1 u hu) hw] at h
        unfold vI at h
        rw [c2] at h
        have : ((an (m_left_of S (m_cleared row t (hd t : Int))) (hd t) : Int) : Rat) = 0 := by rw [h]; simp [Rat.add_zero]
        exact_mod_cast this
      · exact l3 t ht
theorem left_zero {W : Nat} {S : List (List Int)} (T : Tri W S) {row : List Int} (hl : row.length = W) : SpI S (vI row) ↔ ∀ i, an (m_left_of S row) i = 0 := by
  obtain ⟨l1, ⟨a, w, ha, hw, k⟩, l3⟩ := left_spec T hl
  constructor
  · intro h i
    have hs : SpI S (vI (m_left_of S row)) := (Sp.add a h hw).cast k
    have := tri_zero T hs (fun s hs => by show ((an _ _ : Int) : Rat) = 0; rw [l3 s hs]; rfl) i
    unfold vI at this
    exact_mod_cast this
  · intro h
    refine (Sp.smul (-a⁻¹) hw).cast fun i => ?_
    have := k i
    have z : vI (m_left_of S row) i = 0 := by show ((an _ _ : Int) : Rat) = 0; rw [h]; rfl
    rw [z] at this
    grind
/-- a row more: what is left, bare -/
theorem tri_more {W : Nat} {S : List (List Int)} (T : Tri W S) {row : List Int} (hl : row.length = W) (nz : ∃ i, an (m_left_of S row) i ≠ 0) : Tri W (S ++ [m_bare_row (m_left_of S row)]) := by
  obtain ⟨l1, _, l3⟩ := left_spec T hl
  obtain ⟨b1, g, hg, k⟩ := bare_spec (m_left_of S row)
  refine ⟨fun s hs => ?_, List.pairwise_append.mpr ⟨T.pw, List.pairwise_singleton .., fun s hs t ht => ?_⟩⟩
  · rcases List.mem_append.mp hs with h | h
    · exact T.wd s h
    · rw [List.mem_singleton] at h
      subst h
      obtain ⟨i, hi⟩ := nz
      refine ⟨by rw [b1, l1], hd_lt ⟨i, fun e => hi ?_⟩⟩
      rw [k, e]; simp
  · rw [List.mem_singleton] at ht
    subst ht
    have h := l3 s hs
    rw [k] at h
    rcases Int.mul_eq_zero.mp h with h | h
    · omega
    · exact h
theorem spI_app {S T : List (List Int)} {v : V} (h : SpI S v) : SpI (S ++ T) v := h.mono fun _ ⟨r, hr, e⟩ => Sp.mem ⟨r, List.mem_append_left _ hr, e⟩
theorem spI_last (S : List (List Int)) (s : List Int) : SpI (S ++ [s]) (vI s) := Sp.mem ⟨s, List.mem_append_right _ (List.mem_singleton.mpr rfl), rfl⟩
/-- the new row is made of the old ones and the one that was put in, and back -/
theorem more_made {W : Nat} {S : List (List Int)} (T : Tri W S) {row : List Int} (hl : row.length = W) :
    (∃ (c : Rat) (w : V), SpI S w ∧ ∀ i, vI (m_bare_row (m_left_of S row)) i = c * vI row i + w i) ∧ SpI (S ++ [m_bare_row (m_left_of S row)]) (vI row) := by
  obtain ⟨l1, ⟨a, w, ha, hw, k⟩, l3⟩ := left_spec T hl
  obtain ⟨b1, g, hg, kb⟩ := bare_spec (m_left_of S row)
  have gne := cast_ne (a := g) (by omega)
  have kb' : ∀ i, vI (m_left_of S row) i = (g : Rat) * vI (m_bare_row (m_left_of S row)) i := fun i => by
    unfold vI; rw [kb i, Rat.intCast_mul]
  constructor
  · exact ⟨(g : Rat)⁻¹ * a, _, Sp.smul (g : Rat)⁻¹ hw, fun i => by have := kb' i; rw [k] at this; grind⟩
  · refine (Sp.add ((g : Rat) * a⁻¹) (spI_last S (m_bare_row (m_left_of S row))) (Sp.smul (-a⁻¹) (spI_app hw))).cast fun i => ?_
    have := kb' i
    rw [k] at this
    grind
end PL
set_option Elab.async false
set_option linter.all false
set_option maxRecDepth 100000
/-! The steps of rows of whole numbers. -/
namespace PL
open TW LA
open L2 hiding V
structure Red (W : Nat) (S : List (List Int)) : Prop where
  wd : ∀ s ∈ S, s.length = W ∧ 0 < an s (hd s)
  pw : S.Pairwise fun r s => hd r < hd s ∧ an r (hd s) = 0
theorem SpI.sub {L M : List (List Int)} {v : V} (h : ∀ r ∈ L, SpI M (vI r)) (k : SpI L v) : SpI M v := k.mono fun u ⟨r, hr, e⟩ => e ▸ h r hr
theorem SpI.of {L : List (List Int)} {r : List Int} (h : r ∈ L) : SpI L (vI r) := Sp.mem ⟨r, h, rfl⟩
theorem headed_spec {row : List Int} {p : Nat} (h : an row p ≠ 0) : (m_headed_row row (p : Int)).length = row.length ∧ 0 < an (m_headed_row row (p : Int)) p ∧ ∃ c : Int, c ≠ 0 ∧ ∀ i, an row i = c * an (m_headed_row row (p : Int)) i := by
  obtain ⟨b1, g, hg, k⟩ := bare_spec row
  unfold m_headed_row
  rw [at0_nat]
  have nz : an (m_bare_row row) p ≠ 0 := fun e => h (by rw [k, e]; simp)
  by_cases h0 : 0 < an (m_bare_row row) p
  · rw [if_pos h0]
    exact ⟨b1, h0, g, by omega, k⟩
  · rw [if_neg h0]
    have e : ∀ i, an ((m_bare_row row).map fun n => 0 - n) i = 0 - an (m_bare_row row) i := fun i => an_map (fun n => 0 - n) rfl i
    refine ⟨by rw [List.length_map, b1], by rw [e]; omega, -g, by omega, fun i => ?_⟩
    rw [e, k, Int.neg_mul, Int.mul_sub]
    omega
theorem scale_of {r h : List Int} {c : Int} (hc : c ≠ 0) (k : ∀ i, an r i = c * an h i) : (∀ i, vI r i = (c : Rat) * vI h i) ∧ ∀ i, vI h i = (c : Rat)⁻¹ * vI r i := by
  have h1 : ∀ i, vI r i = (c : Rat) * vI h i := fun i => by unfold vI; rw [k i, Rat.intCast_mul]
  have := cast_ne hc
  exact ⟨h1, fun i => by rw [h1]; grind⟩
/-- what the turn at a place keeps -/
structure Stp (W : Nat) (rows : List (List Int)) (k : Nat) (s : Two) : Prop where
  lw : ∀ r ∈ s.1, r.length = W ∧ ∀ i, i < k → an r i = 0
  rd : Red W s.2
  lt : ∀ r ∈ s.2, hd r < k
  to : ∀ v, SpI rows v → SpI (s.1 ++ s.2) v
  fro : ∀ v, SpI (s.1 ++ s.2) v → SpI rows v
  cnt : s.1.length + s.2.length = rows.length
theorem first_none {rows : List (List Int)} {p : Nat} (h : ¬ 0 ≤ m_first_at rows (p : Int)) : ∀ r ∈ rows, an r p = 0 := by
  unfold m_first_at firstN at h
  cases e : rows.findIdx? fun r => decide (at0 r (p : Int) ≠ 0) with
  | some i => rw [e] at h; exact absurd (Int.natCast_nonneg i) h
  | none =>
    rw [List.findIdx?_eq_none_iff] at e
    intro r hr
    have := e r hr
    rw [at0_nat] at this
    simpa using this
theorem first_some {rows : List (List Int)} {p : Nat} (h : 0 ≤ m_first_at rows (p : Int)) : ∃ A x B, rows = A ++ x :: B ∧ m_first_at rows (p : Int) = (A.length : Int) ∧ an x p ≠ 0 ∧ ∀ r ∈ A, an r p = 0 := by
  unfold m_first_at firstN at h ⊢
  cases e : rows.findIdx? fun r => decide (at0 r (p : Int) ≠ 0) with
  | none => rw [e] at h; exact absurd h (by decide)
  | some i =>
    rw [List.findIdx?_eq_some_iff_getElem] at e
    obtain ⟨hi, h1, h2⟩ := e
    refine ⟨rows.take i, rows[i], rows.drop (i + 1), ?_, ?_, ?_, fun r hr => ?_⟩
    · rw [List.getElem_cons_drop, List.take_append_drop]
    · show (i : Int) = _
      rw [List.length_take, Nat.min_eq_left (by omega)]
    · rw [at0_nat] at h1
      simpa using h1
    · obtain ⟨j, hj, ej⟩ := List.mem_iff_getElem.mp hr
      rw [List.length_take] at hj
      rw [List.getElem_take] at ej
      have := h2 j (by omega)
      rw [at0_nat, ej] at this
      simpa using this
theorem others_of (A : List (List Int)) (x : List Int) (B : List (List Int)) : othersI (A ++ x :: B) (A.length : Int) = A ++ B := by
  unfold othersI
  rw [Int.toNat_natCast, List.take_left' rfl, ← List.drop_drop, List.drop_left' rfl]
  rfl
theorem atL_of (A : List (List Int)) (x : List Int) (B : List (List Int)) : atL (A ++ x :: B) (A.length : Int) = x := by
  unfold atL
  rw [Int.toNat_natCast, List.getElem?_append_right (Nat.le_refl _), Nat.sub_self]
  rfl
theorem cl_both {W p : Nat} {r h : List Int} (hr : r.length = W) (hh : h.length = W) (hp : an h p ≠ 0) {M N : List (List Int)} :
    (SpI M (vI r) → SpI M (vI h) → SpI M (vI (m_cleared r h (p : Int)))) ∧ (SpI N (vI (m_cleared r h (p : Int))) → SpI N (vI h) → SpI N (vI r)) := by
  obtain ⟨c1, c2, g, a, b, hg, ha, _, k⟩ := cleared_spec (row := r) (head := h) (p := p) (by omega) hp
  have kc := comb_of hg k
  have h1 := cast_ne ha
  have h2 := cast_ne (a := g) (by omega)
  constructor
  · exact fun x y => (Sp.add _ x (Sp.smul _ y)).cast kc
  · exact fun x y => (Sp.add ((g : Rat) * (a : Rat)⁻¹) x (Sp.smul ((b : Rat) * (a : Rat)⁻¹) y)).cast fun i => by rw [kc]; grind
theorem stp_next {W : Nat} {rows : List (List Int)} {k : Nat} {s : Two} (S : Stp W rows k s) : Stp W rows (k + 1) (stepI s (k : Int)) := by
  unfold stepI
  by_cases h : 0 ≤ m_first_at s.1 (k : Int)
  · rw [if_pos h]
    obtain ⟨A, x, B, e1, e2, nz, zA⟩ := first_some h
    unfold headI
    rw [e2, e1, atL_of]
    unfold stepAt
    rw [e1, others_of]
    have xm : x ∈ s.1 := by rw [e1]; simp
    obtain ⟨xw, xz⟩ := S.lw x xm
    obtain ⟨w1, w2, c, hc, kc⟩ := headed_spec nz
    generalize hh : m_headed_row x (k : Int) = hd' at w1 w2 kc ⊢
    have hz : ∀ m, m < k → an hd' m = 0 := fun m hm => by
      have := xz m hm
      rw [kc] at this
      rcases Int.mul_eq_zero.mp this with h | h
      · exact absurd h hc
      · exact h
    have hk : hd hd' = k := hd_eq (by omega) hz
    have hw : hd'.length = W := by omega
    have hne : an hd' k ≠ 0 := by omega
    obtain ⟨sc1, sc2⟩ := scale_of hc kc
    have memL : ∀ r ∈ A ++ B, r ∈ s.1 := fun r hr => by rw [e1]; rcases List.mem_append.mp hr with h | h <;> simp [h]
    have FR : ∀ r ∈ s.2, hd (m_cleared r hd' (k : Int)) = hd r ∧ 0 < an (m_cleared r hd' (k : Int)) (hd r) ∧ ∀ m, m < k → an r m = 0 → an (m_cleared r hd' (k : Int)) m = 0 := fun r hr => by
      obtain ⟨rw_, rp⟩ := S.rd.wd r hr
      have rl := S.lt r hr
      obtain ⟨c1, c2, g, a, b, hg, _, ha, kk⟩ := cleared_spec (row := r) (head := hd') (p := k) (by omega) hne
      have ha := ha w2
      have e : ∀ m, m < k → g * an (m_cleared r hd' (k : Int)) m = a * an r m := fun m hm => by rw [kk, hz m hm]; simp
      have z : ∀ m, m < k → an r m = 0 → an (m_cleared r hd' (k : Int)) m = 0 := fun m hm h0 => by
        have := e m hm
        rw [h0, Int.mul_zero] at this
        rcases Int.mul_eq_zero.mp this with h | h
        · omega
        · exact h
      have p : 0 < an (m_cleared r hd' (k : Int)) (hd r) := by
        have := e _ rl
        have h1 : 0 < a * an r (hd r) := Int.mul_pos ha rp
        rw [← this] at h1
        exact Int.pos_of_mul_pos_right h1 (by omega)
      exact ⟨hd_eq (by omega) fun m hm => z m (by omega) (hd_before hm), p, z⟩
    refine ⟨fun r hr => ?_, ⟨fun r hr => ?_, ?_⟩, fun r hr => ?_, fun v hv => ?_, fun v hv => ?_, ?_⟩
    · obtain ⟨q, hq, rfl⟩ := List.mem_map.mp hr
      obtain ⟨qw, qz⟩ := S.lw q (memL q hq)
      obtain ⟨c1, c2, g, a, b, hg, _, ha, kk⟩ := cleared_spec (row := q) (head := hd') (p := k) (by omega) hne
      refine ⟨by omega, fun i hi => ?_⟩
      by_cases hik : i = k
      · rw [hik]; exact c2
      · have := kk i
        rw [qz i (by omega), hz i (by omega), Int.mul_zero, Int.mul_zero, Int.sub_self] at this
        rcases Int.mul_eq_zero.mp this with h | h
        · omega
        · exact h
    · rcases List.mem_append.mp hr with h | h
      · obtain ⟨q, hq, rfl⟩ := List.mem_map.mp h
        obtain ⟨qw, qp⟩ := S.rd.wd q hq
        obtain ⟨f1, f2, _⟩ := FR q hq
        rw [f1]
        exact ⟨by rw [(cleared_spec (row := q) (head := hd') (p := k) (by omega) hne).1, qw], f2⟩
      · rw [List.mem_singleton] at h
        subst h
        rw [hk]
        exact ⟨hw, w2⟩
    · have p1 : (s.2.map (m_cleared · hd' (k : Int))).Pairwise fun r s => hd r < hd s ∧ an r (hd s) = 0 := by
        rw [List.pairwise_map]
        refine S.rd.pw.imp_of_mem ?_
        intro r q hr hq h12
        obtain ⟨f1, f2, f3⟩ := FR r hr
        obtain ⟨g1, _⟩ := FR q hq
        rw [f1, g1]
        exact ⟨h12.1, f3 _ (S.lt q hq) h12.2⟩
      refine List.pairwise_append.mpr ⟨p1, List.pairwise_singleton .., ?_⟩
      intro r hr q hq
      obtain ⟨u, hu, rfl⟩ := List.mem_map.mp hr
      rw [List.mem_singleton] at hq
      subst hq
      obtain ⟨f1, f2, f3⟩ := FR u hu
      obtain ⟨uw, _⟩ := S.rd.wd u hu
      rw [f1, hk]
      exact ⟨S.lt u hu, (cleared_spec (row := u) (head := q) (p := k) (by omega) hne).2.1⟩
    · rcases List.mem_append.mp hr with h | h
      · obtain ⟨q, hq, rfl⟩ := List.mem_map.mp h
        rw [(FR q hq).1]
        exact Nat.lt_succ_of_lt (S.lt q hq)
      · rw [List.mem_singleton] at h
        subst h
        omega
    · have hmem : SpI ((A ++ B).map (m_cleared · hd' (k : Int)) ++ (s.2.map (m_cleared · hd' (k : Int)) ++ [hd'])) (vI hd') := SpI.of (by simp)
      refine SpI.sub (fun r hr => ?_) (S.to v hv)
      rw [e1] at hr
      by_cases hx : r = x
      · rw [hx]
        exact (Sp.smul _ hmem).cast sc1
      · have rw_ : r.length = W := by
          rcases List.mem_append.mp hr with h | h
          · exact (S.lw r (by rw [e1]; exact h)).1
          · exact (S.rd.wd r h).1
        refine (cl_both rw_ hw hne (M := [])).2 (SpI.of ?_) hmem
        rcases List.mem_append.mp hr with h | h
        · refine List.mem_append_left _ (List.mem_map.mpr ⟨r, ?_, rfl⟩)
          rcases List.mem_append.mp h with h | h
          · exact List.mem_append_left _ h
          · rcases List.mem_cons.mp h with h | h
            · exact absurd h hx
            · exact List.mem_append_right _ h
        · exact List.mem_append_right _ (List.mem_append_left _ (List.mem_map.mpr ⟨r, h, rfl⟩))
    · have hmem : SpI (s.1 ++ s.2) (vI hd') := (Sp.smul _ (SpI.of (List.mem_append_left _ xm))).cast sc2
      refine S.fro v (SpI.sub (fun r hr => ?_) hv)
      have one : ∀ q, q ∈ s.1 ++ s.2 → q.length = W → SpI (s.1 ++ s.2) (vI (m_cleared q hd' (k : Int))) := fun q hq ql => (cl_both ql hw hne (N := [])).1 (SpI.of hq) hmem
      rcases List.mem_append.mp hr with h | h
      · obtain ⟨q, hq, rfl⟩ := List.mem_map.mp h
        exact one q (List.mem_append_left _ (memL q hq)) (S.lw q (memL q hq)).1
      · rcases List.mem_append.mp h with h | h
        · obtain ⟨q, hq, rfl⟩ := List.mem_map.mp h
          exact one q (List.mem_append_right _ hq) (S.rd.wd q hq).1
        · rw [List.mem_singleton] at h
          subst h
          exact hmem
    · have := S.cnt
      rw [e1] at this
      simp only [List.length_append, List.length_cons, List.length_map, List.length_nil] at this ⊢
      omega
  · rw [if_neg h]
    have z := first_none h
    exact ⟨fun r hr => ⟨(S.lw r hr).1, fun i hi => by
      by_cases hik : i = k
      · rw [hik]; exact z r hr
      · exact (S.lw r hr).2 i (by omega)⟩, S.rd, fun r hr => Nat.lt_succ_of_lt (S.lt r hr), S.to, S.fro, S.cnt⟩
theorem runI_succ (rows : List (List Int)) (k : Nat) : runI rows (k + 1) = stepI (runI rows k) (k : Int) := by
  unfold runI
  rw [List.range_succ, List.map_append, List.foldl_append]
  rfl
theorem stp_run {W : Nat} {rows : List (List Int)} (hw : ∀ r ∈ rows, r.length = W) (k : Nat) : Stp W rows k (runI rows k) := by
  induction k with
  | zero =>
    have e : runI rows 0 = (rows, []) := rfl
    rw [e]
    exact ⟨fun r hr => ⟨hw r hr, fun i hi => by omega⟩, ⟨fun r hr => (List.not_mem_nil hr).elim, List.Pairwise.nil⟩, fun r hr => (List.not_mem_nil hr).elim, fun v hv => by rw [List.append_nil]; exact hv, fun v hv => by rw [List.append_nil] at hv; exact hv, rfl⟩
  | succ k ih => rw [runI_succ]; exact stp_next ih
theorem wideI_eq {W : Nat} {rows : List (List Int)} (hw : ∀ r ∈ rows, r.length = W) : rows = [] ∨ wideI rows = W := by
  cases rows with
  | nil => exact .inl rfl
  | cons r l => exact .inr (hw r (List.mem_cons_self ..))
theorem int_spec {W : Nat} {rows : List (List Int)} (hw : ∀ r ∈ rows, r.length = W) : Red W (m_int_steps rows) ∧ (∀ v, SpI rows v ↔ SpI (m_int_steps rows) v) ∧ (m_int_steps rows).length ≤ rows.length := by
  have S := stp_run hw (wideI rows)
  refine ⟨S.rd, fun v => ⟨fun h => SpI.sub (fun r hr => ?_) (S.to v h), fun h => S.fro v (SpI.sub (fun r hr => SpI.of (List.mem_append_right _ hr)) h)⟩, by have := S.cnt; unfold m_int_steps; omega⟩
  rcases List.mem_append.mp hr with h | h
  · refine Sp.zero.cast fun i => ?_
    obtain ⟨l1, l2⟩ := S.lw r h
    have e : an r i = 0 := by
      by_cases hi : i < wideI rows
      · exact l2 i hi
      · rcases wideI_eq hw with h0 | h0
        · subst h0
          have := S.cnt
          exfalso
          have : (runI [] (wideI [])).1 = [] := List.eq_nil_of_length_eq_zero (by simp at this; simp [this.1])
          rw [this] at h
          cases h
        · exact an_ge (by omega)
    unfold vI
    rw [e]; rfl
  · exact SpI.of h
theorem red_dim {W : Nat} {S : List (List Int)} (R : Red W S) : HasDim (SpI S) S.length := by
  have h := dual_dim (D := S.map fun r => (vI r, hd r)) (fun p hp => by
    obtain ⟨r, hr, rfl⟩ := List.mem_map.mp hp
    have := (R.wd r hr).2
    exact cast_ne (a := an r (hd r)) (by omega)) (List.pairwise_map.mpr (R.pw.imp fun {r s} ⟨h1, h2⟩ => ⟨by show ((an r (hd s) : Int) : Rat) = 0; rw [h2]; rfl, by show ((an s (hd r) : Int) : Rat) = 0; rw [hd_before h1]; rfl⟩))
  rw [List.length_map] at h
  refine h.congr fun v => ⟨Sp.mono fun u ⟨p, hp, e⟩ => ?_, Sp.mono fun u ⟨r, hr, e⟩ => Sp.mem ⟨_, List.mem_map.mpr ⟨r, hr, rfl⟩, e⟩⟩
  obtain ⟨r, hr, rfl⟩ := List.mem_map.mp hp
  exact Sp.mem ⟨r, hr, e⟩
end PL
set_option Elab.async false
set_option linter.all false
set_option maxRecDepth 100000
/-! Steps of rows of Ratios, the kernel. -/
namespace PL
open TW LA
open L2 hiding V
def OfQ (L : List (List Rat)) (v : V) : Prop := ∃ r ∈ L, vQ r = v
abbrev SpQ (L : List (List Rat)) : V → Prop := Sp (OfQ L)
theorem SpQ.of {L : List (List Rat)} {r : List Rat} (h : r ∈ L) : SpQ L (vQ r) := Sp.mem ⟨r, h, rfl⟩
theorem aq_lt {r : List Rat} {i : Nat} (h : i < r.length) : aq r i = r[i] := by unfold aq; rw [List.getElem?_eq_getElem h]; rfl
theorem aq_ge {r : List Rat} {i : Nat} (h : r.length ≤ i) : aq r i = 0 := by unfold aq; rw [List.getElem?_eq_none h]; rfl
theorem aq_mem {r : List Rat} {i : Nat} (h : i < r.length) : aq r i ∈ r := by rw [aq_lt h]; exact List.getElem_mem _
theorem mem_aq {r : List Rat} {x : Rat} (h : x ∈ r) : ∃ i, i < r.length ∧ aq r i = x := by
  obtain ⟨i, hi, e⟩ := List.mem_iff_getElem.mp h
  exact ⟨i, hi, by rw [aq_lt hi, e]⟩
theorem atQ_nat (r : List Rat) (p : Nat) : atQ r (p : Int) = aq r p := rfl
theorem row_ext {r s : List Rat} (hl : r.length = s.length) (h : ∀ i, i < r.length → aq r i = aq s i) : r = s := by
  refine List.ext_getElem hl fun i h1 h2 => ?_
  have := h i h1
  rw [aq_lt h1, aq_lt h2] at this
  exact this
/-! one bottom -/
theorem lcmF (r : List Rat) : ∀ c : Int, 0 < c → 0 < r.foldl (fun b q => ((Nat.lcm b.natAbs q.den : Nat) : Int)) c ∧ (c ∣ r.foldl (fun b q => ((Nat.lcm b.natAbs q.den : Nat) : Int)) c) ∧ ∀ q ∈ r, (q.den : Int) ∣ r.foldl (fun b q => ((Nat.lcm b.natAbs q.den : Nat) : Int)) c := by
  induction r with
  | nil => exact fun c h => ⟨h, Int.dvd_refl _, fun x hx => nomatch hx⟩
  | cons q r ih =>
    intro c hc
    rw [List.foldl_cons]
    have hp : 0 < Nat.lcm c.natAbs q.den := Nat.lcm_pos (by omega) q.den_pos
    obtain ⟨h1, h2, h3⟩ := ih ((Nat.lcm c.natAbs q.den : Nat) : Int) (by omega)
    have e1 : c ∣ ((Nat.lcm c.natAbs q.den : Nat) : Int) := Int.ofNat_dvd_right.mpr (Nat.dvd_lcm_left _ _)
    have e2 : (q.den : Int) ∣ ((Nat.lcm c.natAbs q.den : Nat) : Int) := Int.natCast_dvd_natCast.mpr (Nat.dvd_lcm_right _ _)
    refine ⟨h1, Int.dvd_trans e1 h2, fun x hx => ?_⟩
    rcases List.mem_cons.mp hx with rfl | hx
    · exact Int.dvd_trans e2 h2
    · exact h3 x hx
theorem lcm_pos (r : List Rat) : 0 < lcmL r := (lcmF r 1 (by omega)).1
theorem lcm_dvd {r : List Rat} {q : Rat} (h : q ∈ r) : (q.den : Int) ∣ lcmL r := (lcmF r 1 (by omega)).2.2 q h
theorem den_cast (q : Rat) : (q.num : Rat) = q * ((q.den : Int) : Rat) := by
  have h := Rat.num_divInt_den q
  rw [Rat.divInt_eq_div] at h
  have nz := cast_ne (a := (q.den : Int)) (by have := q.den_nz; omega)
  have h2 : (q.num : Rat) / ((q.den : Int) : Rat) * ((q.den : Int) : Rat) = (q.num : Rat) := by grind
  rw [h] at h2
  exact h2.symm
theorem wholes_one {b : Int} {q : Rat} (h : (q.den : Int) ∣ b) : ((q.num * b.fdiv (q.den : Int) : Int) : Rat) = (b : Rat) * q := by
  obtain ⟨k, rfl⟩ := h
  have := q.den_nz
  rw [Int.mul_fdiv_cancel_left _ (by omega), Rat.intCast_mul, Rat.intCast_mul, den_cast]
  grind
theorem wholes_spec (r : List Rat) : (m_wholes r).2.length = r.length ∧ ∀ i, vI (m_wholes r).2 i = (lcmL r : Rat) * vQ r i := by
  unfold m_wholes
  refine ⟨List.length_map .., fun i => ?_⟩
  unfold vI vQ
  by_cases h : i < r.length
  · rw [an_lt (by simpa using h), List.getElem_map, aq_lt h]
    exact wholes_one (lcm_dvd (List.getElem_mem _))
  · rw [an_ge (by simpa using h), aq_ge (by omega)]
    simp
theorem ints_spec (rows : List (List Rat)) (v : V) : SpQ rows v ↔ SpI (m_ints_of rows) v := by
  have e : ∀ r, (lcmL r : Rat) ≠ 0 := fun r => cast_ne (by have := lcm_pos r; omega)
  constructor
  · refine Sp.mono fun u ⟨r, hr, k⟩ => ?_
    refine (Sp.smul (lcmL r : Rat)⁻¹ (SpI.of (List.mem_map.mpr ⟨r, hr, rfl⟩))).cast fun i => ?_
    have := (wholes_spec r).2 i
    have := e r
    rw [← k]
    grind
  · refine Sp.mono fun u ⟨r, hr, k⟩ => ?_
    obtain ⟨q, hq, rfl⟩ := List.mem_map.mp hr
    rw [← k]
    exact (Sp.smul (lcmL q : Rat) (SpQ.of hq)).cast (wholes_spec q).2
/-! told -/
theorem told_spec (r : List Int) : (toldRow r).length = r.length ∧ ∀ i, vQ (toldRow r) i = ((an r (hd r) : Int) : Rat)⁻¹ * vI r i := by
  unfold toldRow
  refine ⟨List.length_map .., fun i => ?_⟩
  unfold vI vQ
  rw [head_nat, at0_nat]
  by_cases h : i < r.length
  · rw [aq_lt (by simpa using h), List.getElem_map, an_lt h, Rat.divInt_eq_div]
    grind
  · rw [aq_ge (by simpa using h), an_ge (i := i) (by omega)]
    simp
theorem told_same {W : Nat} {R : List (List Int)} (rd : Red W R) (v : V) : SpI R v ↔ SpQ (m_told_rows R) v := by
  have e : ∀ r ∈ R, ((an r (hd r) : Int) : Rat) ≠ 0 := fun r hr => cast_ne (by have := (rd.wd r hr).2; omega)
  constructor
  · refine Sp.mono fun u ⟨r, hr, k⟩ => ?_
    refine (Sp.smul ((an r (hd r) : Int) : Rat) (SpQ.of (List.mem_map.mpr ⟨r, hr, rfl⟩))).cast fun i => ?_
    have := (told_spec r).2 i
    have := e r hr
    rw [← k]
    grind
  · refine Sp.mono fun u ⟨r, hr, k⟩ => ?_
    obtain ⟨q, hq, rfl⟩ := List.mem_map.mp hr
    rw [← k]
    exact (Sp.smul _ (SpI.of hq)).cast (told_spec q).2
theorem ints_wd {W : Nat} {rows : List (List Rat)} (hw : ∀ r ∈ rows, r.length = W) : ∀ r ∈ m_ints_of rows, r.length = W := fun r hr => by
  obtain ⟨q, hq, rfl⟩ := List.mem_map.mp hr
  rw [(wholes_spec q).1, hw q hq]
/-- the steps: rows of whole numbers, told -/
def stI (rows : List (List Rat)) : List (List Int) := m_int_steps (m_ints_of rows)
theorem steps_eq (rows : List (List Rat)) : m_steps_of rows = (stI rows).map toldRow := rfl
theorem stI_spec {W : Nat} {rows : List (List Rat)} (hw : ∀ r ∈ rows, r.length = W) : Red W (stI rows) ∧ ∀ v, SpQ rows v ↔ SpI (stI rows) v := by
  obtain ⟨h1, h2, _⟩ := int_spec (ints_wd hw)
  exact ⟨h1, fun v => (ints_spec rows v).trans (h2 v)⟩
theorem steps_span {W : Nat} {rows : List (List Rat)} (hw : ∀ r ∈ rows, r.length = W) (v : V) : SpQ (m_steps_of rows) v ↔ SpQ rows v := by
  obtain ⟨h1, h2⟩ := stI_spec hw
  exact (told_same h1 v).symm.trans (h2 v).symm
theorem steps_dim {W : Nat} {rows : List (List Rat)} (hw : ∀ r ∈ rows, r.length = W) : HasDim (SpQ rows) (m_steps_of rows).length := by
  obtain ⟨h1, h2⟩ := stI_spec hw
  rw [steps_eq, List.length_map]
  exact (red_dim h1).congr fun v => (h2 v).symm
theorem steps_wd {W : Nat} {rows : List (List Rat)} (hw : ∀ r ∈ rows, r.length = W) : ∀ r ∈ m_steps_of rows, r.length = W := fun r hr => by
  obtain ⟨q, hq, rfl⟩ := List.mem_map.mp hr
  rw [(told_spec q).1, ((stI_spec hw).1.wd q hq).1]
/-! the kernel -/
def dot (W : Nat) (u v : V) : Rat := sumL (List.range W) fun i => u i * v i
theorem dot_lin (W : Nat) (v : V) : LinF fun u => dot W u v := fun a u w => by
  show sumL _ _ = a * sumL _ _ + sumL _ _
  rw [← sumL_mul, ← sumL_add]
  exact sumL_congr fun i _ => by grind
theorem dot_lin2 (W : Nat) (u : V) : LinF fun v => dot W u v := fun a v w => by
  show sumL _ _ = a * sumL _ _ + sumL _ _
  rw [← sumL_mul, ← sumL_add]
  exact sumL_congr fun i _ => by grind
theorem sum_pick {α : Type} [DecidableEq α] {l : List α} (nd : l.Nodup) {p : α} (hp : p ∈ l) (f : α → Rat) : sumL l (fun i => if i = p then f i else 0) = f p := by
  induction l with
  | nil => cases hp
  | cons a l ih =>
    obtain ⟨h1, h2⟩ := List.nodup_cons.mp nd
    rw [sumL_cons]
    by_cases h : a = p
    · subst h
      rw [if_pos rfl, sumL_zero fun i hi => if_neg fun e : i = a => h1 (by rw [← e]; exact hi)]
      grind
    · rw [if_neg h, ih h2]
      · grind
      · rcases List.mem_cons.mp hp with e | e
        · exact absurd e.symm h
        · exact e
theorem Sp.list {α : Type} {B : V → Prop} {l : List α} {e : α → V} (c : α → Rat) (h : ∀ a ∈ l, Sp B (e a)) : Sp B (fun i => sumL l (fun a => c a * e a i)) := by
  induction l with
  | nil => exact .zero
  | cons a l ih => exact Sp.add (c a) (h a (List.mem_cons_self ..)) (ih fun b hb => h b (List.mem_cons_of_mem _ hb))
/-- what is led to 0 -/
def Ker (W : Nat) (S : V → Prop) (v : V) : Prop := (∀ i, W ≤ i → v i = 0) ∧ ∀ u, S u → dot W u v = 0
theorem nums_hd (r : List Int) (h : 0 < an r (hd r)) : m_head_of (nums (toldRow r)) = (hd r : Int) := by
  have e : ∀ i, an (nums (toldRow r)) i = 0 ↔ an r i = 0 := fun i => by
    have k := (told_spec r).2 i
    unfold vQ vI at k
    have e1 : an (nums (toldRow r)) i = (aq (toldRow r) i).num := by
      unfold an aq nums
      rw [List.getElem?_map]
      cases (toldRow r)[i]? with
      | none => rfl
      | some x => rfl
    rw [e1, Rat.num_eq_zero]
    have nz := cast_ne (a := an r (hd r)) (by omega)
    constructor
    · intro h
      rw [h] at k
      have : ((an r i : Int) : Rat) = 0 := by grind
      exact_mod_cast this
    · intro h
      rw [k, h]
      simp
  rw [head_nat, hd_eq (r := nums (toldRow r)) (p := hd r)]
  · intro z
    have := (e _).mp z
    omega
  · intro m hm
    exact (e m).mpr (hd_before hm)
theorem headsQ_eq {W : Nat} {R : List (List Int)} (rd : Red W R) : headsQ (R.map toldRow) = R.map fun r => (hd r : Int) := by
  unfold headsQ
  rw [List.map_map]
  exact List.map_congr_left fun r hr => nums_hd r (rd.wd r hr).2
theorem aq_set {r : List Rat} {p : Nat} {x : Rat} (h : p < r.length) (i : Nat) : aq (r.set p x) i = if i = p then x else aq r i := by
  unfold aq
  rw [List.getElem?_set]
  by_cases e : p = i
  · subst e
    rw [if_pos rfl, if_pos rfl, if_pos h]; rfl
  · rw [if_neg e, if_neg (fun h => e h.symm)]
theorem putF {W : Nat} {free : Nat} : ∀ (R : List (List Int)), (∀ r ∈ R, hd r < W) → (R.Pairwise fun r s => hd r < hd s) → ∀ row : List Rat, row.length = W →
    (((R.map fun r => (hd r : Int)).zip (R.map toldRow)).foldl (putRow (free : Int)) row).length = W ∧ ∀ j, aq (((R.map fun r => (hd r : Int)).zip (R.map toldRow)).foldl (putRow (free : Int)) row) j = (if ∃ r ∈ R, hd r = j then 0 else aq row j) - sumL R fun r => if j = hd r then vQ (toldRow r) free else 0 := by
  intro R
  induction R with
  | nil => intro _ _ row hl; exact ⟨hl, fun j => by rw [if_neg (by simp), sumL_nil]; show aq row j = _; grind⟩
  | cons r R ih =>
    intro hw pw row hl
    obtain ⟨p1, p2⟩ := List.pairwise_cons.mp pw
    have hr := hw r (List.mem_cons_self ..)
    rw [List.map_cons, List.map_cons, List.zip_cons_cons, List.foldl_cons]
    have e : putRow (free : Int) row ((hd r : Int), toldRow r) = row.set (hd r) (-(vQ (toldRow r) free)) := rfl
    rw [e]
    obtain ⟨i1, i2⟩ := ih (fun s hs => hw s (List.mem_cons_of_mem _ hs)) p2 (row.set (hd r) (-(vQ (toldRow r) free))) (by rw [List.length_set, hl])
    refine ⟨i1, fun j => ?_⟩
    rw [i2, sumL_cons, aq_set (by omega)]
    by_cases hj : j = hd r
    · have x1 : ¬ ∃ s ∈ R, hd s = j := fun ⟨s, hs, es⟩ => by have := p1 s hs; omega
      have x2 : ∃ s ∈ r :: R, hd s = j := ⟨r, List.mem_cons_self .., hj.symm⟩
      rw [if_pos hj, if_neg x1, if_pos x2, if_pos hj]
      grind
    · rw [if_neg hj, if_neg hj]
      by_cases hx : ∃ s ∈ R, hd s = j
      · obtain ⟨s, hs, es⟩ := hx
        have x2 : ∃ s ∈ r :: R, hd s = j := ⟨s, List.mem_cons_of_mem _ hs, es⟩
        rw [if_pos ⟨s, hs, es⟩, if_pos x2]
        grind
      · have x2 : ¬ ∃ s ∈ r :: R, hd s = j := fun ⟨s, hs, es⟩ => by
          rcases List.mem_cons.mp hs with rfl | hs
          · exact hj es.symm
          · exact hx ⟨s, hs, es⟩
        rw [if_neg hx, if_neg x2]
        grind
theorem unit_spec (W free : Nat) : (unitRow W (free : Int)).length = W ∧ ∀ j, aq (unitRow W (free : Int)) j = if j = free ∧ j < W then 1 else 0 := by
  unfold unitRow
  refine ⟨by simp, fun j => ?_⟩
  by_cases h : j < W
  · rw [aq_lt (by simpa using h)]
    simp only [List.getElem_map, List.getElem_range]
    by_cases e : j = free
    · rw [if_pos (by omega), if_pos ⟨e, h⟩]
    · rw [if_neg (by omega), if_neg fun h => e h.1]
  · rw [aq_ge (by simpa using h), if_neg fun h2 => h h2.2]
theorem red_hd_lt {W : Nat} {R : List (List Int)} (rd : Red W R) {r : List Int} (h : r ∈ R) : hd r < W := by
  obtain ⟨h1, h2⟩ := rd.wd r h
  apply Classical.byContradiction
  intro c
  rw [an_ge (by omega)] at h2
  omega
theorem ker_row {W : Nat} {R : List (List Int)} (rd : Red W R) {free : Nat} (hf : free < W) (nf : ∀ r ∈ R, hd r ≠ free) :
    (kerRow (R.map toldRow) W (free : Int)).length = W ∧ ∀ j, vQ (kerRow (R.map toldRow) W (free : Int)) j = (if j = free then 1 else 0) - sumL R fun r => if j = hd r then vQ (toldRow r) free else 0 := by
  unfold kerRow
  rw [headsQ_eq rd]
  obtain ⟨u1, u2⟩ := unit_spec W free
  obtain ⟨p1, p2⟩ := putF (W := W) (free := free) R (fun r hr => red_hd_lt rd hr) (rd.pw.imp fun h => h.1) (unitRow W (free : Int)) u1
  refine ⟨p1, fun j => ?_⟩
  unfold vQ at *
  rw [p2, u2]
  by_cases hj : j = free
  · subst hj
    have x1 : ¬ ∃ r ∈ R, hd r = j := fun ⟨r, hr, e⟩ => nf r hr e
    rw [if_neg x1, if_pos ⟨rfl, hf⟩, if_pos rfl]
  · have x1 : ¬ (j = free ∧ j < W) := fun h => hj h.1
    rw [if_neg x1, if_neg hj]
    split <;> rfl
/-- the places without a head -/
def freeN (R : List (List Int)) (W : Nat) : List Nat := (List.range W).filter fun f => !decide (f ∈ R.map hd)
theorem freeN_mem {R : List (List Int)} {W f : Nat} : f ∈ freeN R W ↔ f < W ∧ ∀ r ∈ R, hd r ≠ f := by
  unfold freeN
  rw [List.mem_filter, List.mem_range]
  simp
theorem freeN_nodup (R : List (List Int)) (W : Nat) : (freeN R W).Nodup := List.nodup_range.filter _
theorem found_eq {W : Nat} {R : List (List Int)} (rd : Red W R) : kerFound (R.map toldRow) W W = (freeN R W).map fun (f : Nat) => kerRow (R.map toldRow) W (f : Int) := by
  unfold kerFound freeN
  rw [headsQ_eq rd, List.filter_map, List.map_map]
  congr 1
  refine List.filter_congr fun f _ => ?_
  congr 1
  simp
  exact ⟨fun ⟨a, h, e⟩ => ⟨a, h, by omega⟩, fun ⟨a, h, e⟩ => ⟨a, h, by omega⟩⟩
theorem ker_found {W : Nat} {R : List (List Int)} (rd : Red W R) (v : V) : SpQ (kerFound (R.map toldRow) W W) v ↔ Ker W (SpI R) v := by
  have tl : ∀ r ∈ R, ∀ s ∈ R, vQ (toldRow r) (hd s) = if hd r = hd s then 1 else 0 := fun r hr s hs => by
    have rp := (rd.wd r hr).2
    have nz := cast_ne (a := an r (hd r)) (by omega)
    rw [(told_spec r).2]
    by_cases e : hd r = hd s
    · rw [if_pos e, ← e]
      show _ * ((an r (hd r) : Int) : Rat) = 1
      grind
    · rw [if_neg e]
      have z : an r (hd s) = 0 := by
        obtain ⟨i, hi, ei⟩ := List.mem_iff_getElem.mp hr
        obtain ⟨j, hj, ej⟩ := List.mem_iff_getElem.mp hs
        rcases Nat.lt_trichotomy i j with h | h | h
        · have := (List.pairwise_iff_getElem.mp rd.pw i j hi hj h).2
          rw [ei, ej] at this
          exact this
        · subst h
          rw [ei] at ej
          rw [ej] at e
          exact absurd rfl e
        · have := (List.pairwise_iff_getElem.mp rd.pw j i hj hi h).1
          rw [ei, ej] at this
          exact hd_before this
      show _ * ((an r (hd s) : Int) : Rat) = 0
      rw [z]
      simp
  have mt : ∀ r ∈ R, SpI R (vQ (toldRow r)) := fun r hr => (Sp.smul _ (SpI.of hr)).cast (told_spec r).2
  have pk : ∀ (p : Nat) (u : V) (a : Rat), p < W → sumL (List.range W) (fun j => u j * if j = p then a else 0) = u p * a := fun p u a hp => by
    rw [← sum_pick (l := List.range W) List.nodup_range (List.mem_range.mpr hp) (fun j => u j * a)]
    exact sumL_congr fun j _ => by split <;> grind
  rw [found_eq rd]
  constructor
  · refine Sp.all (C := Ker W (SpI R)) ⟨fun _ _ => rfl, fun u _ => (dot_lin2 W u).zero⟩ (fun a x y hx hy => ⟨fun i hi => ?_, fun u hu => ?_⟩)
    · obtain ⟨q, hq, rfl⟩ := hx
      obtain ⟨f, hf, rfl⟩ := List.mem_map.mp hq
      obtain ⟨f1, f2⟩ := freeN_mem.mp hf
      show a * aq _ i + y i = 0
      rw [aq_ge (by rw [(ker_row rd f1 f2).1]; exact hi), hy.1 i hi]
      grind
    · obtain ⟨q, hq, rfl⟩ := hx
      obtain ⟨f, hf, rfl⟩ := List.mem_map.mp hq
      obtain ⟨f1, f2⟩ := freeN_mem.mp hf
      rw [show dot W u (fun i => a * vQ (kerRow (R.map toldRow) W (f : Int)) i + y i) = a * dot W u (vQ (kerRow (R.map toldRow) W (f : Int))) + dot W u y from dot_lin2 W u a _ y, hy.2 u hu]
      suffices h : dot W u (vQ (kerRow (R.map toldRow) W (f : Int))) = 0 by rw [h]; grind
      have lin := dot_lin W (vQ (kerRow (R.map toldRow) W (f : Int)))
      refine Sp.null lin (fun w ⟨s, hs, es⟩ => ?_) hu
      rw [← es]
      have es2 : vI s = fun i => ((an s (hd s) : Int) : Rat) * vQ (toldRow s) i := funext fun i => by
        rw [(told_spec s).2]
        have nz := cast_ne (a := an s (hd s)) (by have := (rd.wd s hs).2; omega)
        grind
      have lz : dot W (vQ (toldRow s)) (vQ (kerRow (R.map toldRow) W (f : Int))) = 0 := by
        unfold dot
        rw [sumL_congr (g := fun j => vQ (toldRow s) j * (if j = f then 1 else 0) + (-1) * sumL R fun r => vQ (toldRow s) j * if j = hd r then vQ (toldRow r) f else 0) fun j _ => by
          rw [(ker_row rd f1 f2).2, sumL_mul]; grind]
        rw [sumL_add, pk f _ 1 f1, sumL_mul, sumL_swap]
        rw [sumL_congr (l := R) (g := fun r => if r = s then vQ (toldRow r) f else 0) fun r hr => by
          rw [pk _ _ _ (red_hd_lt rd hr), tl s hs r hr]
          by_cases e : r = s
          · rw [if_pos e, e, if_pos rfl]; grind
          · rw [if_neg e, if_neg fun h => e ?_]
            · grind
            · obtain ⟨i, hi, ei⟩ := List.mem_iff_getElem.mp hr
              obtain ⟨j, hj, ej⟩ := List.mem_iff_getElem.mp hs
              rcases Nat.lt_trichotomy i j with h3 | h3 | h3
              · have := (List.pairwise_iff_getElem.mp rd.pw i j hi hj h3).1
                rw [ei, ej] at this
                omega
              · subst h3
                rw [← ei, ej]
              · have := (List.pairwise_iff_getElem.mp rd.pw j i hj hi h3).1
                rw [ei, ej] at this
                omega]
        rw [sum_pick (l := R) (rd.pw.imp fun {a b} h => fun e => by rw [e] at h; omega) hs fun r => vQ (toldRow r) f]
        grind
      show dot W (vI s) _ = 0
      rw [es2]
      have hz := lin ((an s (hd s) : Int) : Rat) (vQ (toldRow s)) (fun _ => 0)
      have h0 := lin.zero
      simp only at hz h0
      rw [show (fun i => ((an s (hd s) : Int) : Rat) * vQ (toldRow s) i) = fun i => ((an s (hd s) : Int) : Rat) * vQ (toldRow s) i + 0 from funext fun i => by grind, hz, lz, h0]
      grind
  · intro ⟨k1, k2⟩
    -- what is left behind the free places
    have hsum : Sp (OfQ ((freeN R W).map fun (f : Nat) => kerRow (R.map toldRow) W (f : Int))) (fun i => sumL (freeN R W) fun f => v f * vQ (kerRow (R.map toldRow) W (f : Int)) i) :=
      Sp.list (α := Nat) (e := fun f i => vQ (kerRow (R.map toldRow) W (f : Int)) i) (fun f => v f) fun f hf => SpQ.of (List.mem_map.mpr ⟨f, hf, rfl⟩)
    refine hsum.cast fun j => ?_
    by_cases hj : j < W
    · by_cases hfr : ∀ r ∈ R, hd r ≠ j
      · rw [sumL_congr (g := fun f => if f = j then v f else 0) fun f hf => ?_, sum_pick (freeN_nodup R W) (freeN_mem.mpr ⟨hj, hfr⟩)]
        obtain ⟨f1, f2⟩ := freeN_mem.mp hf
        rw [(ker_row rd f1 f2).2, sumL_zero fun r hr => if_neg fun e => hfr r hr e.symm]
        by_cases e : j = f
        · rw [if_pos e, if_pos e.symm]; grind
        · rw [if_neg e, if_neg fun h => e h.symm]; grind
      · -- a head: the equation of its row
        have ⟨s, hs, es⟩ : ∃ s ∈ R, hd s = j := by
          apply Classical.byContradiction
          intro c
          exact hfr fun r hr e => c ⟨r, hr, e⟩
        have eqn := k2 _ (mt s hs)
        unfold dot at eqn
        have hh : ∀ f ∈ freeN R W, vQ (kerRow (R.map toldRow) W (f : Int)) j = -vQ (toldRow s) f := fun f hf => by
          obtain ⟨f1, f2⟩ := freeN_mem.mp hf
          rw [(ker_row rd f1 f2).2, if_neg fun e => f2 s hs (by omega)]
          rw [sumL_congr (g := fun r => if r = s then vQ (toldRow r) f else 0) fun r hr => ?_, sum_pick (rd.pw.imp fun {a b} h => fun e => by rw [e] at h; omega) hs fun r => vQ (toldRow r) f]
          · grind
          · by_cases e : r = s
            · rw [if_pos e, if_pos (by rw [e]; exact es.symm)]
            · rw [if_neg e, if_neg fun h => e ?_]
              obtain ⟨i, hi, ei⟩ := List.mem_iff_getElem.mp hr
              obtain ⟨j, hj, ej⟩ := List.mem_iff_getElem.mp hs
              rcases Nat.lt_trichotomy i j with h3 | h3 | h3
              · have := (List.pairwise_iff_getElem.mp rd.pw i j hi hj h3).1
                rw [ei, ej] at this
                omega
              · subst h3
                rw [← ei, ej]
              · have := (List.pairwise_iff_getElem.mp rd.pw j i hj hi h3).1
                rw [ei, ej] at this
                omega
        have split : ∀ (l : List Nat) (g : Nat → Rat), sumL l g = sumL (l.filter fun f => !decide (f ∈ R.map hd)) g + sumL l fun f => if f ∈ R.map hd then g f else 0 := fun l g => by
          induction l with
          | nil => rw [List.filter_nil, sumL_nil, sumL_nil]; grind
          | cons a l ih =>
            rw [sumL_cons, sumL_cons, ih]
            by_cases h : a ∈ R.map hd
            · rw [List.filter_cons_of_neg (by simp; simpa using h), if_pos h]; grind
            · rw [List.filter_cons_of_pos (by simp; simpa using h), if_neg h, sumL_cons]; grind
        rw [split, sumL_congr (l := List.range W) (g := fun f => if f = j then v f else 0) fun f hf => ?_, sum_pick List.nodup_range (List.mem_range.mpr hj)] at eqn
        · rw [sumL_congr (g := fun f => (-1) * (vQ (toldRow s) f * v f)) fun f hf => by rw [hh f hf]; grind, sumL_mul]
          unfold freeN
          grind
        · by_cases h : f ∈ R.map hd
          · rw [if_pos h]
            obtain ⟨r, hr, er⟩ := List.mem_map.mp h
            rw [← er, tl s hs r hr, es]
            by_cases e : j = hd r
            · rw [if_pos e, if_pos e.symm]; grind
            · rw [if_neg e, if_neg fun h => e h.symm]; grind
          · rw [if_neg h, if_neg fun e => h (by rw [e, ← es]; exact List.mem_map.mpr ⟨s, hs, rfl⟩)]
    · rw [k1 j (by omega)]
      refine (sumL_zero fun f hf => ?_).symm
      obtain ⟨f1, f2⟩ := freeN_mem.mp hf
      rw [show vQ (kerRow (R.map toldRow) W (f : Int)) j = 0 from aq_ge (by rw [(ker_row rd f1 f2).1]; omega)]
      grind
theorem found_wd {W : Nat} {R : List (List Int)} (rd : Red W R) : ∀ r ∈ kerFound (R.map toldRow) W W, r.length = W := fun r hr => by
  rw [found_eq rd] at hr
  obtain ⟨f, hf, rfl⟩ := List.mem_map.mp hr
  obtain ⟨f1, f2⟩ := freeN_mem.mp hf
  exact (ker_row rd f1 f2).1
theorem Ker.congr {W : Nat} {S T : V → Prop} (h : ∀ v, S v ↔ T v) (v : V) : Ker W S v ↔ Ker W T v := by
  have : S = T := funext fun v => propext (h v)
  rw [this]
theorem kernel_spec {W : Nat} {rows : List (List Rat)} (hw : ∀ r ∈ rows, r.length = W) : (∀ v, SpQ (m_kernel_of rows (W : Int)) v ↔ Ker W (SpQ rows) v) ∧ HasDim (Ker W (SpQ rows)) (m_kernel_of rows (W : Int)).length ∧ ∀ r ∈ m_kernel_of rows (W : Int), r.length = W := by
  obtain ⟨h1, h2⟩ := stI_spec hw
  have e : m_kernel_of rows (W : Int) = m_steps_of (kerFound ((stI rows).map toldRow) W W) := rfl
  have k : ∀ v, SpQ (kerFound ((stI rows).map toldRow) W W) v ↔ Ker W (SpQ rows) v := fun v => (ker_found h1 v).trans (Ker.congr (fun v => (h2 v).symm) v)
  rw [e]
  exact ⟨fun v => (steps_span (found_wd h1) v).trans (k v), (steps_dim (found_wd h1)).congr k, steps_wd (found_wd h1)⟩
end PL
set_option Elab.async false
set_option linter.all false
set_option maxRecDepth 100000
/-! Square tables. -/
namespace PL
open TW LA
open L2 hiding V
abbrev Mt (n : Nat) := Fin n → Fin n → Rat
def sumF {n : Nat} (f : Fin n → Rat) : Rat := sumL (List.finRange n) f
def mulM {n : Nat} (A B : Mt n) : Mt n := fun i j => sumF fun k => A i k * B k j
def oneM {n : Nat} : Mt n := fun i j => if i = j then 1 else 0
def trM {n : Nat} (A : Mt n) : Rat := sumF fun i => A i i
theorem finRange_nodup (n : Nat) : (List.finRange n).Nodup := by
  unfold List.Nodup
  rw [List.pairwise_iff_getElem]
  intro i j hi hj h e
  rw [List.getElem_finRange, List.getElem_finRange] at e
  have := congrArg Fin.val e
  simp at this
  omega
theorem sumL_mulr {α : Type} (c : Rat) (l : List α) (f : α → Rat) : sumL l (fun a => f a * c) = sumL l f * c := by
  have := sumL_mul c l f
  rw [show sumL l f * c = c * sumL l f by grind, ← this]
  exact sumL_congr fun a _ => by grind
theorem mulM_assoc {n : Nat} (A B C : Mt n) : mulM (mulM A B) C = mulM A (mulM B C) := by
  funext i j
  show sumL _ (fun k => sumL _ (fun l => A i l * B l k) * C k j) = sumL _ (fun l => A i l * sumL _ fun k => B l k * C k j)
  rw [sumL_congr (g := fun k => sumL (List.finRange n) fun l => A i l * B l k * C k j) fun k _ => (sumL_mulr _ _ _).symm, sumL_swap]
  exact sumL_congr fun l _ => by rw [← sumL_mul]; exact sumL_congr fun k _ => by grind
theorem one_mulM {n : Nat} (A : Mt n) : mulM oneM A = A := by
  funext i j
  show sumL _ (fun k => oneM i k * A k j) = A i j
  rw [sumL_congr (g := fun k => if k = i then A k j else 0) fun k _ => by unfold oneM; by_cases h : i = k
                                                                          · rw [if_pos h, if_pos h.symm]; grind
                                                                          · rw [if_neg h, if_neg fun e => h e.symm]; grind]
  exact sum_pick (finRange_nodup n) (List.mem_finRange i) fun k => A k j
theorem mul_oneM {n : Nat} (A : Mt n) : mulM A oneM = A := by
  funext i j
  show sumL _ (fun k => A i k * oneM k j) = A i j
  rw [sumL_congr (g := fun k => if k = j then A i k else 0) fun k _ => by unfold oneM; by_cases h : k = j
                                                                          · rw [if_pos h, if_pos h]; grind
                                                                          · rw [if_neg h, if_neg h]; grind]
  exact sum_pick (finRange_nodup n) (List.mem_finRange j) fun k => A i k
theorem tr_comm {n : Nat} (A B : Mt n) : trM (mulM A B) = trM (mulM B A) := by
  show sumL _ (fun i => sumL _ fun k => A i k * B k i) = sumL _ (fun k => sumL _ fun i => B k i * A i k)
  rw [sumL_swap]
  exact sumL_congr fun k _ => sumL_congr fun i _ => by grind
/-- led by a table that T undoes -/
def conj {n : Nat} (S T : Mt n) (A : Mt n) : Mt n := mulM (mulM S A) T
theorem conj_mul {n : Nat} {S T : Mt n} (h : mulM T S = oneM) (A B : Mt n) : mulM (conj S T A) (conj S T B) = conj S T (mulM A B) := by
  unfold conj
  rw [mulM_assoc, ← mulM_assoc T (mulM S B) T, ← mulM_assoc T S B, h, one_mulM, mulM_assoc S A (mulM B T), ← mulM_assoc A B T, ← mulM_assoc S (mulM A B) T]
theorem conj_back {n : Nat} {S T : Mt n} (h : mulM T S = oneM) (A : Mt n) : conj T S (conj S T A) = A := by
  unfold conj
  rw [mulM_assoc S A T, ← mulM_assoc T S (mulM A T), h, one_mulM, mulM_assoc, h, mul_oneM]
theorem conj_one {n : Nat} {S T : Mt n} (h : mulM S T = oneM) : conj S T oneM = oneM := by
  unfold conj
  rw [mul_oneM, h]
theorem conj_tr {n : Nat} {S T : Mt n} (h : mulM T S = oneM) (A : Mt n) : trM (conj S T A) = trM A := by
  unfold conj
  rw [tr_comm, ← mulM_assoc, h, one_mulM]
/-! long rows -/
def flat {n : Nat} (A : Mt n) : V := fun x => if h : x < n * n then A ⟨x / n, Nat.div_lt_of_lt_mul h⟩ ⟨x % n, Nat.mod_lt _ (Nat.pos_of_ne_zero fun e => by subst e; simp at h)⟩ else 0
def mat (n : Nat) (v : V) : Mt n := fun i j => v (i.val * n + j.val)
theorem ij_lt {n i j : Nat} (hi : i < n) (hj : j < n) : i * n + j < n * n := by
  have h1 : (i + 1) * n ≤ n * n := Nat.mul_le_mul_right n hi
  rw [Nat.add_mul] at h1
  omega
theorem ij_div {n i j : Nat} (hj : j < n) : (i * n + j) / n = i := by
  rw [Nat.add_comm, Nat.add_mul_div_right _ _ (by omega), Nat.div_eq_of_lt hj, Nat.zero_add]
theorem ij_mod {n i j : Nat} (hj : j < n) : (i * n + j) % n = j := by
  rw [Nat.add_comm, Nat.add_mul_mod_self_right, Nat.mod_eq_of_lt hj]
theorem mat_flat {n : Nat} (A : Mt n) : mat n (flat A) = A := by
  funext i j
  unfold mat flat
  rw [dif_pos (ij_lt i.isLt j.isLt)]
  have e1 : (⟨(i.val * n + j.val) / n, Nat.div_lt_of_lt_mul (ij_lt i.isLt j.isLt)⟩ : Fin n) = i := Fin.ext (ij_div j.isLt)
  have e2 : ∀ h, (⟨(i.val * n + j.val) % n, h⟩ : Fin n) = j := fun h => Fin.ext (ij_mod j.isLt)
  rw [e1, e2]
theorem flat_mat {n : Nat} {v : V} (h : ∀ x, n * n ≤ x → v x = 0) : flat (mat n v) = v := by
  funext x
  unfold flat mat
  by_cases hx : x < n * n
  · rw [dif_pos hx]
    show v (x / n * n + x % n) = v x
    rw [Nat.mul_comm, Nat.div_add_mod]
  · rw [dif_neg hx, h x (by omega)]
theorem flat_ge {n : Nat} (A : Mt n) (x : Nat) (h : n * n ≤ x) : flat A x = 0 := dif_neg (by omega)
theorem mul_linl {n : Nat} (a : Rat) (A B C : Mt n) : mulM (fun i j => a * A i j + B i j) C = fun i j => a * mulM A C i j + mulM B C i j := by
  funext i j
  show sumL _ (fun k => (a * A i k + B i k) * C k j) = a * sumL _ _ + sumL _ _
  rw [← sumL_mul, ← sumL_add]
  exact sumL_congr fun k _ => by grind
theorem mul_linr {n : Nat} (a : Rat) (A B C : Mt n) : mulM C (fun i j => a * A i j + B i j) = fun i j => a * mulM C A i j + mulM C B i j := by
  funext i j
  show sumL _ (fun k => C i k * (a * A k j + B k j)) = a * sumL _ _ + sumL _ _
  rw [← sumL_mul, ← sumL_add]
  exact sumL_congr fun k _ => by grind
def cj {n : Nat} (S T : Mt n) (v : V) : V := flat (conj S T (mat n v))
theorem cj_lin {n : Nat} (S T : Mt n) : Lin (cj S T) := fun a u v => by
  unfold cj
  have e : mat n (fun i => a * u i + v i) = fun i j => a * mat n u i j + mat n v i j := rfl
  have e2 : conj S T (mat n fun i => a * u i + v i) = fun i j => a * conj S T (mat n u) i j + conj S T (mat n v) i j := by
    unfold conj
    rw [e, mul_linr, mul_linl]
  rw [e2]
  funext x
  unfold flat
  by_cases h : x < n * n
  · rw [dif_pos h, dif_pos h, dif_pos h]
  · rw [dif_neg h, dif_neg h, dif_neg h]; grind
theorem cj_back {n : Nat} {S T : Mt n} (h : mulM T S = oneM) {v : V} (hv : ∀ x, n * n ≤ x → v x = 0) : cj T S (cj S T v) = v := by
  unfold cj
  rw [mat_flat, conj_back h, flat_mat hv]
theorem cj_flat {n : Nat} (S T A : Mt n) : cj S T (flat A) = flat (conj S T A) := by
  unfold cj
  rw [mat_flat]
/-! tables -/
def al {α : Type} (t : List (List α)) (i : Nat) : List α := (t[i]?).getD []
theorem al_lt {α : Type} {t : List (List α)} {i : Nat} (h : i < t.length) : al t i = t[i] := by unfold al; rw [List.getElem?_eq_getElem h]; rfl
theorem al_mem {α : Type} {t : List (List α)} {i : Nat} (h : i < t.length) : al t i ∈ t := by rw [al_lt h]; exact List.getElem_mem _
theorem atL_nat {α : Type} (t : List (List α)) (i : Nat) : atL t (i : Int) = al t i := rfl
def ent (t : Tab) (i j : Nat) : Rat := aq (al t i) j
def mt (n : Nat) (t : Tab) : Mt n := fun i j => ent t i.val j.val
/-- p rows of q numbers -/
def Shp {α : Type} (t : List (List α)) (p q : Nat) : Prop := t.length = p ∧ ∀ r ∈ t, r.length = q
theorem flatten_len {α : Type} {t : List (List α)} {p q : Nat} (h : Shp t p q) : t.flatten.length = p * q := by
  obtain ⟨h1, h2⟩ := h
  subst h1
  induction t with
  | nil => simp
  | cons r t ih =>
    rw [List.flatten_cons, List.length_append, ih fun s hs => h2 s (List.mem_cons_of_mem _ hs), h2 r (List.mem_cons_self ..), List.length_cons, Nat.add_mul]
    omega
theorem flatten_at {α : Type} {t : List (List α)} {p q : Nat} (h : Shp t p q) {i j : Nat} (hi : i < p) (hj : j < q) : t.flatten[i * q + j]? = (al t i)[j]? := by
  obtain ⟨h1, h2⟩ := h
  subst h1
  induction t generalizing i with
  | nil => simp at hi
  | cons r t ih =>
    have hr := h2 r (List.mem_cons_self ..)
    rw [List.flatten_cons]
    cases i with
    | zero =>
      rw [Nat.zero_mul, Nat.zero_add, List.getElem?_append_left (by omega)]
      rfl
    | succ i =>
      rw [List.getElem?_append_right (by rw [hr, Nat.add_mul]; omega), hr, show (i + 1) * q + j - q = i * q + j by rw [Nat.add_mul]; omega,
        ih (i := i) (fun s hs => h2 s (List.mem_cons_of_mem _ hs)) (by simp at hi; omega)]
      rfl
theorem long_flat {n : Nat} {t : Tab} (h : Shp t n n) : vQ t.flatten = flat (mt n t) := by
  funext x
  unfold vQ flat
  by_cases hx : x < n * n
  · rw [dif_pos hx]
    have n0 : 0 < n := Nat.pos_of_ne_zero fun e => by subst e; simp at hx
    have := flatten_at h (i := x / n) (j := x % n) (Nat.div_lt_of_lt_mul hx) (Nat.mod_lt _ n0)
    rw [Nat.mul_comm, Nat.div_add_mod] at this
    unfold aq
    rw [this]
    rfl
  · rw [dif_neg hx, aq_ge (by rw [flatten_len h]; omega)]
/-! chop -/
theorem upto_get {n i : Nat} (h : i < n) : (upto n)[i]? = some (i : Int) := by
  unfold upto
  rw [List.getElem?_map, List.getElem?_range h]
  rfl
theorem upto_lenN (n : Nat) : (upto n).length = n := by unfold upto; simp
theorem map_upto_at {α : Type} (f : Int → List α) {n i : Nat} (h : i < n) : al ((upto n).map f) i = f (i : Int) := by
  unfold al
  rw [List.getElem?_map, upto_get h]
  rfl
theorem cut_row {α : Type} (r : List α) (i q : Nat) : cutL r (some ((i : Int) * (q : Int))) (some (((i : Int) + 1) * (q : Int))) = (r.drop (i * q)).take ((min ((i + 1) * q) r.length) - min (i * q) r.length) := by
  unfold cutL
  have e1 : ∀ (k n d : Nat), HT.sIx n d (some (k : Int)) = min k n := fun k n d => by
    show (if (k : Int) < 0 then ((k : Int) + (n : Int)).toNat else min (k : Int).toNat n) = _
    rw [if_neg (by omega), Int.toNat_natCast]
  have e2 : ((i : Int) + 1) * (q : Int) = (((i + 1) * q : Nat) : Int) := by simp
  rw [← Int.natCast_mul, e2, e1, e1]
  by_cases h : i * q ≤ r.length
  · rw [Nat.min_eq_left h]
  · rw [Nat.min_eq_right (by omega : r.length ≤ i * q), List.drop_eq_nil_of_le (Nat.le_refl _), List.drop_eq_nil_of_le (by omega)]
theorem chop_spec {α : Type} {r : List α} {p q : Nat} (h : r.length = p * q) : Shp (chop r q p) p q ∧ ∀ i j, i < p → j < q → (al (chop r q p) i)[j]? = r[i * q + j]? := by
  have le : ∀ i, i < p → (i + 1) * q ≤ p * q := fun i hi => Nat.mul_le_mul_right q hi
  have row : ∀ i, i < p → al (chop r q p) i = (r.drop (i * q)).take q := fun i hi => by
    unfold chop
    rw [map_upto_at _ hi, cut_row]
    have := le i hi
    rw [Nat.min_eq_left (by omega), Nat.min_eq_left (by rw [Nat.add_mul] at this; omega), Nat.add_mul]
    congr 1
    omega
  refine ⟨⟨by unfold chop; rw [List.length_map, upto_lenN], fun s hs => ?_⟩, fun i j hi hj => ?_⟩
  · obtain ⟨i, hi, e⟩ := List.mem_iff_getElem.mp hs
    have hi' : i < p := by unfold chop at hi; rw [List.length_map, upto_lenN] at hi; exact hi
    rw [← e, ← al_lt hi, row i hi', List.length_take, List.length_drop, h]
    have := le i hi'
    rw [Nat.add_mul] at this
    omega
  · rw [row i hi, List.getElem?_take_of_lt hj, List.getElem?_drop]
/-! products -/
theorem sumL_zip {α β : Type} (d : α) (e : β) (g : α × β → Rat) : ∀ {l : List α} {m : List β}, l.length = m.length → sumL (l.zip m) g = sumL (List.range l.length) fun k => g ((l[k]?).getD d, (m[k]?).getD e) := by
  intro l
  induction l with
  | nil => intro m _; rfl
  | cons a l ih =>
    intro m hm
    cases m with
    | nil => simp at hm
    | cons b m =>
      rw [List.zip_cons_cons, sumL_cons, ih (by simpa using hm), List.length_cons, List.range_succ_eq_map, sumL_cons, sumL_map]
      rfl
theorem sum_cast {α : Type} (l : List α) (f : α → Int) : (((l.map f).sum : Int) : Rat) = sumL l fun a => ((f a : Int) : Rat) := by
  induction l with
  | nil => rfl
  | cons a l ih => rw [List.map_cons, List.sum_cons, Rat.intCast_add, ih, sumL_cons]
theorem range_fin {n : Nat} (f : Nat → Rat) : sumL (List.range n) f = sumF fun i : Fin n => f i.val := by
  unfold sumF
  have e : (List.finRange n).map Fin.val = List.range n := List.ext_getElem (by simp) fun i h1 h2 => by simp
  rw [← e, sumL_map]
theorem bare_tab {t : Tab} {p q : Nat} (h : Shp t p q) (hp : 0 < p) : ∃ b : Int, 0 < b ∧ (m_bare_table t).1 = b ∧ Shp (m_bare_table t).2 p q ∧ ∀ i j, i < p → j < q → ((an (al (m_bare_table t).2 i) j : Int) : Rat) = (b : Rat) * ent t i j := by
  have hl := h.1
  have wd : wideQ t = q := by
    cases t with
    | nil => simp at hl; omega
    | cons r t => exact h.2 r (List.mem_cons_self ..)
  unfold m_bare_table
  rw [if_neg (by omega), wd, hl]
  obtain ⟨w1, w2⟩ := wholes_spec t.flatten
  obtain ⟨c1, c2⟩ := chop_spec (r := (m_wholes t.flatten).2) (p := p) (q := q) (by rw [w1, flatten_len h])
  refine ⟨lcmL t.flatten, lcm_pos _, rfl, c1, fun i j hi hj => ?_⟩
  have := w2 (i * q + j)
  unfold vI vQ at this
  unfold an
  rw [c2 i j hi hj]
  unfold an aq at this
  rw [this, flatten_at h hi hj]
  rfl
theorem mem_al {α : Type} {t : List (List α)} {r : List α} (h : r ∈ t) : ∃ i, i < t.length ∧ al t i = r := by
  obtain ⟨i, hi, e⟩ := List.mem_iff_getElem.mp h
  exact ⟨i, hi, by rw [al_lt hi, e]⟩
theorem al_map {α β : Type} {t : List (List α)} (f : List α → List β) {i : Nat} (h : i < t.length) : al (t.map f) i = f (al t i) := by
  rw [al_lt (by simpa using h), List.getElem_map, al_lt h]
theorem wideI_shp {o : List (List Int)} {q s : Nat} (h : Shp o q s) (hq : 0 < q) : wideI o = s := by
  have := h.1
  cases o with
  | nil => simp at this; omega
  | cons r o => exact h.2 r (List.mem_cons_self ..)
theorem int_prod {t o : List (List Int)} {p q s : Nat} (ht : Shp t p q) (ho : Shp o q s) (hq : 0 < q) : Shp (m_int_product t o) p s ∧ ∀ i j, i < p → j < s → ((an (al (m_int_product t o) i) j : Int) : Rat) = sumL (List.range q) fun k => ((an (al t i) k : Int) : Rat) * ((an (al o k) j : Int) : Rat) := by
  unfold m_int_product
  rw [wideI_shp ho hq]
  refine ⟨⟨by rw [List.length_map, ht.1], fun r hr => ?_⟩, fun i j hi hj => ?_⟩
  · obtain ⟨u, hu, rfl⟩ := List.mem_map.mp hr
    rw [List.length_map, upto_lenN]
  · rw [al_map _ (by rw [ht.1]; exact hi)]
    have hrow := ht.2 _ (al_mem (t := t) (i := i) (by rw [ht.1]; exact hi))
    unfold an
    rw [List.getElem?_map, upto_get hj]
    show ((dotI (al t i) o (j : Int) : Int) : Rat) = _
    unfold dotI
    rw [sum_cast, sumL_zip (0 : Int) ([] : List Int) _ (by rw [hrow, ho.1]), hrow]
    exact sumL_congr fun k _ => by rw [Rat.intCast_mul]; rfl
theorem prod_spec {t o : Tab} {p q s : Nat} (ht : Shp t p q) (ho : Shp o q s) (hp : 0 < p) (hq : 0 < q) : Shp (m_product_of t o) p s ∧ ∀ i j, i < p → j < s → ent (m_product_of t o) i j = sumL (List.range q) fun k => ent t i k * ent o k j := by
  obtain ⟨b, b0, b1, b2, b3⟩ := bare_tab ht hp
  obtain ⟨c, c0, c1, c2, c3⟩ := bare_tab ho hq
  obtain ⟨i1, i2⟩ := int_prod b2 c2 hq
  unfold m_product_of m_over_bottom
  rw [b1, c1]
  refine ⟨⟨by rw [List.length_map, i1.1], fun r hr => ?_⟩, fun i j hi hj => ?_⟩
  · obtain ⟨u, hu, rfl⟩ := List.mem_map.mp hr
    rw [List.length_map, i1.2 u hu]
  · unfold ent
    rw [al_map _ (by rw [i1.1]; exact hi)]
    have hl := i1.2 _ (al_mem (t := m_int_product (m_bare_table t).2 (m_bare_table o).2) (i := i) (by rw [i1.1]; exact hi))
    have e := i2 i j hi hj
    rw [an_lt (by omega)] at e
    rw [aq_lt (by rw [List.length_map]; omega), List.getElem_map, Rat.divInt_eq_div, e, Rat.intCast_mul]
    have nb := cast_ne (a := b) (by omega)
    have nc := cast_ne (a := c) (by omega)
    have e2 : (sumL (List.range q) fun k => ((an (al (m_bare_table t).2 i) k : Int) : Rat) * ((an (al (m_bare_table o).2 k) j : Int) : Rat)) = (b : Rat) * (c : Rat) * sumL (List.range q) fun k => ent t i k * ent o k j := by
      rw [← sumL_mul]
      exact sumL_congr fun k hk => by rw [b3 i k hi (List.mem_range.mp hk), c3 k j (List.mem_range.mp hk) hj]; grind
    rw [e2]
    show _ = sumL (List.range q) fun k => ent t i k * ent o k j
    grind
theorem prod_mt {n : Nat} {t o : Tab} (ht : Shp t n n) (ho : Shp o n n) (hn : 0 < n) : Shp (m_product_of t o) n n ∧ mt n (m_product_of t o) = mulM (mt n t) (mt n o) := by
  obtain ⟨h1, h2⟩ := prod_spec ht ho hn hn
  refine ⟨h1, ?_⟩
  funext i j
  show ent _ _ _ = _
  rw [h2 i.val j.val i.isLt j.isLt, range_fin]
  rfl
theorem idle_mt (n : Nat) : Shp (m_idle_of (n : Int)) n n ∧ mt n (m_idle_of (n : Int)) = oneM := by
  unfold m_idle_of
  rw [Int.toNat_natCast]
  refine ⟨⟨by rw [List.length_map, upto_lenN], fun r hr => ?_⟩, ?_⟩
  · obtain ⟨a, ha, rfl⟩ := List.mem_map.mp hr
    rw [List.length_map, upto_lenN]
  · funext i j
    show aq (al _ i.val) j.val = _
    rw [map_upto_at _ i.isLt]
    unfold aq
    rw [List.getElem?_map, upto_get j.isLt]
    show (if (i.val : Int) = (j.val : Int) then (1 : Rat) else 0) = if i = j then 1 else 0
    by_cases h : i = j
    · rw [if_pos h, if_pos (by rw [h])]
    · rw [if_neg h, if_neg fun e => h (Fin.ext (by omega))]
end PL
set_option Elab.async false
set_option linter.all false
set_option maxRecDepth 100000
/-! Base words of a house and of the house led by a table. -/
namespace PL
open TW LA
open L2 hiding V
inductive AllR {α β : Type} (R : α → β → Prop) : List α → List β → Prop
  | nil : AllR R [] []
  | cons {a b l m} : R a b → AllR R l m → AllR R (a :: l) (b :: m)
section
variable {α β γ δ : Type} {R : α → β → Prop} {S : γ → δ → Prop}
theorem AllR.append {l m l' m'} (h : AllR R l m) (k : AllR R l' m') : AllR R (l ++ l') (m ++ m') := by
  induction h with
  | nil => exact k
  | cons a _ ih => exact .cons a ih
theorem AllR.length {l m} (h : AllR R l m) : l.length = m.length := by
  induction h with
  | nil => rfl
  | cons _ _ ih => rw [List.length_cons, List.length_cons, ih]
theorem AllR.map {f : α → γ} {g : β → δ} (fg : ∀ a b, R a b → S (f a) (g b)) {l m} (h : AllR R l m) : AllR S (l.map f) (m.map g) := by
  induction h with
  | nil => exact .nil
  | cons a _ ih => exact .cons (fg _ _ a) ih
theorem AllR.foldl {f : γ → α → γ} {g : δ → β → δ} (fg : ∀ s t a b, S s t → R a b → S (f s a) (g t b)) {l m} (h : AllR R l m) : ∀ {s t}, S s t → S (l.foldl f s) (m.foldl g t) := by
  induction h with
  | nil => exact fun s => s
  | cons a _ ih => exact fun s => ih (fg _ _ _ _ s a)
theorem AllR.mem {l m} (h : AllR R l m) {a} (ha : a ∈ l) : ∃ b ∈ m, R a b := by
  induction h with
  | nil => cases ha
  | cons r _ ih =>
    rcases List.mem_cons.mp ha with rfl | ha
    · exact ⟨_, List.mem_cons_self .., r⟩
    · obtain ⟨b, hb, hr⟩ := ih ha
      exact ⟨b, List.mem_cons_of_mem _ hb, hr⟩
theorem AllR.mem' {l m} (h : AllR R l m) {b} (hb : b ∈ m) : ∃ a ∈ l, R a b := by
  induction h with
  | nil => cases hb
  | cons r _ ih =>
    rcases List.mem_cons.mp hb with rfl | hb
    · exact ⟨_, List.mem_cons_self .., r⟩
    · obtain ⟨a, ha, hr⟩ := ih hb
      exact ⟨a, List.mem_cons_of_mem _ ha, hr⟩
theorem AllR.empty {l m} (h : AllR R l m) : l.isEmpty = m.isEmpty := by cases h <;> rfl
theorem AllR.self {l : List α} {R : α → α → Prop} (h : ∀ a ∈ l, R a a) : AllR R l l := by
  induction l with
  | nil => exact .nil
  | cons a l ih => exact .cons (h a (List.mem_cons_self ..)) (ih fun b hb => h b (List.mem_cons_of_mem _ hb))
end
/-- a house: square letters -/
structure Sq (n : Nat) (h : Hou) : Prop where
  pos : 0 < n
  wd : h.n = n
  ls : ∀ t ∈ h.ls, Shp t n n
/-- the second house is the first one led by S, which T undoes -/
structure Led (n : Nat) (S T : Mt n) (h h' : Hou) : Prop where
  sq : Sq n h
  sq' : Sq n h'
  st : mulM S T = oneM
  ts : mulM T S = oneM
  ls : AllR (fun t t' => mt n t' = conj S T (mt n t)) h.ls h'.ls
theorem letter_led {n : Nat} {S T : Mt n} {h h' : Hou} (L : Led n S T h h') {l : Nat} (hl : l < h.ls.length) : Shp (letterAt h (l : Int)) n n ∧ Shp (letterAt h' (l : Int)) n n ∧ mt n (letterAt h' (l : Int)) = conj S T (mt n (letterAt h (l : Int))) := by
  have hl' : l < h'.ls.length := by rw [← L.ls.length]; exact hl
  have e1 : letterAt h (l : Int) = h.ls[l] := by unfold letterAt; rw [atL_nat, al_lt hl]
  have e2 : letterAt h' (l : Int) = h'.ls[l] := by unfold letterAt; rw [atL_nat, al_lt hl']
  rw [e1, e2]
  refine ⟨L.sq.ls _ (List.getElem_mem _), L.sq'.ls _ (List.getElem_mem _), ?_⟩
  have key : ∀ {a b : List Tab}, AllR (fun t t' => mt n t' = conj S T (mt n t)) a b → ∀ (l : Nat) (h1 : l < a.length) (h2 : l < b.length), mt n b[l] = conj S T (mt n a[l]) := by
    intro a b h
    induction h with
    | nil => exact fun l h1 => by simp at h1
    | cons r _ ih =>
      intro l h1 h2
      cases l with
      | zero => exact r
      | succ l => exact ih l (by simpa using h1) (by simpa using h2)
  exact key L.ls l hl hl'
def WdR {n : Nat} (S T : Mt n) (w w' : Wd) : Prop := w.1 = w'.1 ∧ ∃ t t', w.2 = [t] ∧ w'.2 = [t'] ∧ Shp t n n ∧ Shp t' n n ∧ mt n t' = conj S T (mt n t)
structure RowR {n : Nat} (S T : Mt n) (a b : List (List Int)) : Prop where
  ta : Tri (n * n) a
  tb : Tri (n * n) b
  to : ∀ v, SpI a v → SpI b (cj S T v)
  fro : ∀ v, SpI b v → SpI a (cj T S v)
  len : a.length = b.length
structure BsR {n : Nat} (S T : Mt n) (s s' : Bs) : Prop where
  rows : RowR S T s.1 s'.1
  more : AllR (WdR S T) s.2 s'.2
theorem long_one (t : Tab) {n : Nat} (h : Shp t n n) : (m_long_with [t]).length = n * n ∧ ∃ c : Rat, c ≠ 0 ∧ ∀ i, vI (m_long_with [t]) i = c * flat (mt n t) i := by
  unfold m_long_with
  have e : [t].flatMap m_long_of = t.flatten := by simp [m_long_of]
  rw [e]
  obtain ⟨w1, w2⟩ := wholes_spec t.flatten
  refine ⟨by rw [w1, flatten_len h], (lcmL t.flatten : Rat), cast_ne (by have := lcm_pos t.flatten; omega), fun i => ?_⟩
  rw [w2, long_flat h]
theorem any_iff (row : List Int) : (row.any fun x => decide (x ≠ 0)) = true ↔ ∃ i, an row i ≠ 0 := by
  rw [List.any_eq_true]
  constructor
  · intro ⟨x, hx, h⟩
    obtain ⟨i, hi, e⟩ := mem_an hx
    exact ⟨i, by rw [e]; exact of_decide_eq_true h⟩
  · intro ⟨i, hi⟩
    have hl : i < row.length := by
      apply Classical.byContradiction
      intro c
      exact hi (an_ge (by omega))
    exact ⟨_, an_mem hl, decide_eq_true hi⟩
theorem any_left {W : Nat} {S : List (List Int)} (T : Tri W S) {row : List Int} (hl : row.length = W) : ((m_left_of S row).any fun x => decide (x ≠ 0)) = true ↔ ¬ SpI S (vI row) := by
  rw [any_iff, left_zero T hl]
  constructor
  · exact fun ⟨i, hi⟩ h => hi (h i)
  · intro h
    apply Classical.byContradiction
    intro c
    exact h fun i => Classical.byContradiction fun e => c ⟨i, e⟩
theorem rowR_more {n : Nat} {S T : Mt n} (st : mulM S T = oneM) (ts : mulM T S = oneM) {a b : List (List Int)} (R : RowR S T a b) {r r' : List Int} (hr : r.length = n * n) (hr' : r'.length = n * n) {A A' : Mt n} {c c' : Rat} (hc : c ≠ 0) (hc' : c' ≠ 0)
    (e : ∀ i, vI r i = c * flat A i) (e' : ∀ i, vI r' i = c' * flat A' i) (eA : A' = conj S T A) :
    ((m_left_of a r).any fun x => decide (x ≠ 0)) = ((m_left_of b r').any fun x => decide (x ≠ 0)) ∧ (((m_left_of a r).any fun x => decide (x ≠ 0)) = true → RowR S T (a ++ [m_bare_row (m_left_of a r)]) (b ++ [m_bare_row (m_left_of b r')])) := by
  have er : ∀ i, cj S T (vI r) i = (c * c'⁻¹) * vI r' i := fun i => by
    have h1 : vI r = fun i => c * flat A i := funext e
    have h2 : cj S T (vI r) = fun i => c * flat (conj S T A) i := by
      have := cj_lin S T c (flat A) (fun _ => 0)
      rw [h1, show (fun i => c * flat A i) = fun i => c * flat A i + 0 from funext fun i => by grind, this, cj_flat]
      funext i
      rw [(cj_lin S T).zero]; grind
    rw [h2, e', eA]; grind
  have A_back : conj T S A' = A := by rw [eA, conj_back ts]
  have er' : ∀ i, cj T S (vI r') i = (c' * c⁻¹) * vI r i := fun i => by
    have h1 : vI r' = fun i => c' * flat A' i := funext e'
    have h2 : cj T S (vI r') = fun i => c' * flat (conj T S A') i := by
      have := cj_lin T S c' (flat A') (fun _ => 0)
      rw [h1, show (fun i => c' * flat A' i) = fun i => c' * flat A' i + 0 from funext fun i => by grind, this, cj_flat]
      funext i
      rw [(cj_lin T S).zero]; grind
    rw [h2, e, A_back]; grind
  have key : SpI a (vI r) ↔ SpI b (vI r') := by
    constructor
    · intro h
      exact (Sp.smul (c * c'⁻¹)⁻¹ (R.to _ h)).cast fun i => by rw [er]; grind
    · intro h
      exact (Sp.smul (c' * c⁻¹)⁻¹ (R.fro _ h)).cast fun i => by rw [er']; grind
  have i1 := any_left R.ta hr
  have i2 := any_left R.tb hr'
  refine ⟨?_, fun nz => ?_⟩
  · cases h1 : (m_left_of a r).any fun x => decide (x ≠ 0) with
    | true => exact (i2.mpr fun h => i1.mp h1 (key.mpr h)).symm
    | false =>
      cases h2 : (m_left_of b r').any fun x => decide (x ≠ 0) with
      | true => exact absurd (i1.mpr fun h => i2.mp h2 (key.mp h)) (by rw [h1]; decide)
      | false => rfl
  · have nz' : ((m_left_of b r').any fun x => decide (x ≠ 0)) = true := i2.mpr fun h => i1.mp nz (key.mpr h)
    obtain ⟨⟨d, w, hw, kd⟩, ma⟩ := more_made R.ta hr
    obtain ⟨⟨d', w', hw', kd'⟩, mb⟩ := more_made R.tb hr'
    refine ⟨tri_more R.ta hr ((any_iff _).mp nz), tri_more R.tb hr' ((any_iff _).mp nz'), fun v hv => ?_, fun v hv => ?_, by rw [List.length_append, List.length_append, R.len]; rfl⟩
    · refine Sp.map (cj_lin S T) (fun u ⟨q, hq, eq⟩ => ?_) hv
      rcases List.mem_append.mp hq with h | h
      · exact spI_app (R.to _ (Sp.mem ⟨q, h, eq⟩))
      · rw [List.mem_singleton] at h
        subst h
        rw [← eq, show vI (m_bare_row (m_left_of a r)) = fun i => d * vI r i + w i from funext kd, cj_lin S T]
        refine Sp.add d ((Sp.smul (c * c'⁻¹) mb).cast er) (spI_app (R.to _ hw))
    · refine Sp.map (cj_lin T S) (fun u ⟨q, hq, eq⟩ => ?_) hv
      rcases List.mem_append.mp hq with h | h
      · exact spI_app (R.fro _ (Sp.mem ⟨q, h, eq⟩))
      · rw [List.mem_singleton] at h
        subst h
        rw [← eq, show vI (m_bare_row (m_left_of b r')) = fun i => d' * vI r' i + w' i from funext kd', cj_lin T S]
        refine Sp.add d' ((Sp.smul (c' * c⁻¹) ma).cast er') (spI_app (R.fro _ hw'))
theorem upto_memN {n : Nat} {a : Int} (h : a ∈ upto n) : ∃ k : Nat, a = (k : Int) ∧ k < n := by
  unfold upto at h
  obtain ⟨k, hk, e⟩ := List.mem_map.mp h
  exact ⟨k, e.symm, List.mem_range.mp hk⟩
theorem stepB_R {n : Nat} {S T : Mt n} {h h' : Hou} (L : Led n S T h h') {s s' : Bs} (B : BsR S T s s') {w w' : Wd} (W : WdR S T w w') {l : Nat} (hl : l < h.ls.length) : BsR S T (stepB [h] s (w, (l : Int))) (stepB [h'] s' (w', (l : Int))) := by
  obtain ⟨e1, t, t', e2, e3, s1, s2, m1⟩ := W
  obtain ⟨l1, l2, l3⟩ := letter_led L hl
  obtain ⟨p1, p2⟩ := prod_mt s1 l1 L.sq.pos
  obtain ⟨p1', p2'⟩ := prod_mt s2 l2 L.sq.pos
  have late : lateOf [h] w.2 (l : Int) = [m_product_of t (letterAt h (l : Int))] := by rw [e2]; rfl
  have late' : lateOf [h'] w'.2 (l : Int) = [m_product_of t' (letterAt h' (l : Int))] := by rw [e3]; rfl
  have em : mt n (m_product_of t' (letterAt h' (l : Int))) = conj S T (mt n (m_product_of t (letterAt h (l : Int)))) := by
    rw [p2, p2', m1, l3, conj_mul L.ts]
  obtain ⟨q1, c, hc, q2⟩ := long_one _ p1
  obtain ⟨q1', c', hc', q2'⟩ := long_one _ p1'
  obtain ⟨r1, r2⟩ := rowR_more L.st L.ts B.rows q1 q1' hc hc' q2 q2' em
  unfold stepB putLate
  simp only
  rw [late, late', ← r1]
  cases hh : (m_left_of s.1 (m_long_with [m_product_of t (letterAt h (l : Int))])).any fun x => decide (x ≠ 0) with
  | true =>
    rw [if_pos rfl, if_pos rfl]
    exact ⟨r2 hh, B.more.append (.cons ⟨by show w.1 ++ _ = w'.1 ++ _; rw [e1], _, _, rfl, rfl, p1, p1', em⟩ .nil)⟩
  | false =>
    rw [if_neg (by decide), if_neg (by decide)]
    exact B
structure LotR {n : Nat} (S T : Mt n) (s s' : Lot) : Prop where
  found : AllR (WdR S T) s.found s'.found
  last : AllR (WdR S T) s.last s'.last
  rows : RowR S T s.rows s'.rows
theorem wordsB_R {n : Nat} {S T : Mt n} {h h' : Hou} (L : Led n S T h h') {ws ws' : List Wd} (W : AllR (WdR S T) ws ws') : ∀ {s s' : Bs}, BsR S T s s' → BsR S T (wordsB [h] s ws) (wordsB [h'] s' ws') := by
  intro s s' B
  unfold wordsB
  refine W.foldl (S := BsR S T) (fun s s' w w' B W => ?_) B
  unfold wordB letB
  have em : manyB [h'] = manyB [h] := L.ls.length.symm
  rw [em]
  refine (AllR.self (R := fun a b => a = b ∧ ∃ k : Nat, a = (k : Int) ∧ k < h.ls.length) fun a ha => ⟨rfl, upto_memN ha⟩).foldl (S := BsR S T) (fun s s' a b B ⟨e, k, ek, hk⟩ => ?_) B
  rw [← e, ek]
  exact stepB_R L B W hk
theorem start_R {n : Nat} {S T : Mt n} {h h' : Hou} (L : Led n S T h h') : LotR S T (startB [h]) (startB [h']) := by
  obtain ⟨i1, i2⟩ := idle_mt n
  have W : AllR (WdR S T) [([], [m_idle_of (n : Int)])] [([], [m_idle_of (n : Int)])] := .cons ⟨rfl, _, _, rfl, rfl, i1, i1, by rw [i2, conj_one L.st]⟩ .nil
  have e1 : startB [h] = ⟨[([], [m_idle_of (n : Int)])], [([], [m_idle_of (n : Int)])], [m_long_with [m_idle_of (n : Int)]]⟩ := by unfold startB; rw [List.map_cons, List.map_nil, L.sq.wd]
  have e2 : startB [h'] = ⟨[([], [m_idle_of (n : Int)])], [([], [m_idle_of (n : Int)])], [m_long_with [m_idle_of (n : Int)]]⟩ := by unfold startB; rw [List.map_cons, List.map_nil, L.sq'.wd]
  rw [e1, e2]
  obtain ⟨q1, c, hc, q2⟩ := long_one _ i1
  have nz : an (m_long_with [m_idle_of (n : Int)]) (hd (m_long_with [m_idle_of (n : Int)])) ≠ 0 := by
    refine hd_lt ⟨0, fun z => hc ?_⟩
    have := q2 0
    unfold vI at this
    rw [z, i2] at this
    have n0 := L.sq.pos
    have f0 : flat (oneM : Mt n) 0 = 1 := by
      unfold flat oneM
      rw [dif_pos (Nat.mul_pos n0 n0), if_pos (Fin.ext (by simp))]
    rw [f0] at this
    grind
  have T0 : Tri (n * n) [m_long_with [m_idle_of (n : Int)]] := ⟨fun s hs => by rw [List.mem_singleton] at hs; rw [hs]; exact ⟨q1, nz⟩, List.pairwise_singleton ..⟩
  have sp : ∀ {A B : Mt n}, mulM A B = oneM → ∀ v, SpI [m_long_with [m_idle_of (n : Int)]] v → SpI [m_long_with [m_idle_of (n : Int)]] (cj A B v) := fun {A B} ab v hv => by
    refine Sp.map (cj_lin A B) (fun u ⟨q, hq, eq⟩ => ?_) hv
    rw [List.mem_singleton] at hq
    subst hq
    refine (SpI.of (List.mem_singleton.mpr rfl)).cast fun i => ?_
    have h1 : vI (m_long_with [m_idle_of (n : Int)]) = fun i => c * flat (oneM : Mt n) i := funext fun i => by rw [q2, i2]
    have h2 : cj A B (vI (m_long_with [m_idle_of (n : Int)])) = fun i => c * flat (oneM : Mt n) i := by
      have := cj_lin A B c (flat (oneM : Mt n)) (fun _ => 0)
      rw [h1, show (fun i => c * flat (oneM : Mt n) i) = fun i => c * flat (oneM : Mt n) i + 0 from funext fun i => by grind, this, cj_flat, conj_one ab]
      funext i
      rw [(cj_lin A B).zero]
    rw [← eq, h2, h1]
  exact ⟨W, W, T0, T0, sp L.st, sp L.ts, rfl⟩
theorem grow_R {n : Nat} {S T : Mt n} {h h' : Hou} (L : Led n S T h h') {s s' : Lot} (B : LotR S T s s') : LotR S T (growB [h] s) (growB [h'] s') := by
  have := wordsB_R L B.last (s := (s.rows, [])) (s' := (s'.rows, [])) ⟨B.rows, .nil⟩
  exact ⟨B.found.append this.more, this.more, this.rows⟩
theorem run_R {n : Nat} {S T : Mt n} {h h' : Hou} (L : Led n S T h h') (k : Nat) : LotR S T (runB [h] k) (runB [h'] k) := by
  induction k with
  | zero => exact start_R L
  | succ k ih => exact grow_R L ih
theorem end_R {n : Nat} {S T : Mt n} {h h' : Hou} (L : Led n S T h h') (f k : Nat) : endB [h] f k = endB [h'] f k := by
  induction f generalizing k with
  | zero => rfl
  | succ f ih => unfold endB; rw [(run_R L k).last.empty, ih]
theorem base_R {n : Nat} {S T : Mt n} {h h' : Hou} (L : Led n S T h h') : AllR (WdR S T) (m_base_with [h]) (m_base_with [h']) := by
  unfold m_base_with
  rw [← end_R L]
  exact (run_R L _).found
/-- a word with its table -/
def BaR {n : Nat} (S T : Mt n) (p p' : List Int × Tab) : Prop := p.1 = p'.1 ∧ Shp p.2 n n ∧ Shp p'.2 n n ∧ mt n p'.2 = conj S T (mt n p.2)
theorem baseOf_R {n : Nat} {S T : Mt n} {h h' : Hou} (L : Led n S T h h') : AllR (BaR S T) (m_base_of h) (m_base_of h') := by
  unfold m_base_of
  refine (base_R L).map fun w w' ⟨e1, t, t', e2, e3, s1, s2, m1⟩ => ⟨e1, ?_⟩
  rw [e2, e3]
  exact ⟨s1, s2, m1⟩
theorem dim_R {n : Nat} {S T : Mt n} {h h' : Hou} (L : Led n S T h h') : m_dimension h' = m_dimension h ∧ m_every_table h' = m_every_table h := by
  unfold m_dimension m_every_table
  rw [(baseOf_R L).length, L.sq.wd, L.sq'.wd]
  exact ⟨rfl, rfl⟩
/-! the table of sums -/
theorem sumQ_eq (r : List Rat) : sumQ r = sumL r fun x => x := by
  unfold sumQ
  have : ∀ (r : List Rat) (a : Rat), r.foldl (· + ·) a = a + sumL r fun x => x := fun r => by
    induction r with
    | nil => intro a; rw [List.foldl_nil, sumL_nil]; grind
    | cons x r ih => intro a; rw [List.foldl_cons, ih, sumL_cons]; grind
  rw [this]; grind
theorem sumL_flatMap {α β : Type} (l : List α) (g : α → List β) (f : β → Rat) : sumL (l.flatMap g) f = sumL l fun a => sumL (g a) f := by
  induction l with
  | nil => rfl
  | cons a l ih => rw [List.flatMap_cons, sumL_append, sumL_cons, ih]
theorem sumL_enum {α : Type} (d : α) (xs : List α) (f : Int × α → Rat) : sumL (enumL xs) f = sumL (List.range xs.length) fun k => f ((k : Int), (xs[k]?).getD d) := by
  unfold enumL
  rw [sumL_zip (0 : Int) d f (by simp), List.length_map, List.length_range]
  refine sumL_congr fun k hk => ?_
  rw [List.getElem?_map, List.getElem?_range (List.mem_range.mp hk)]
  rfl
theorem sum_two {n : Nat} {t o : Tab} (ht : Shp t n n) (ho : Shp o n n) : m_sum_of_two t o = trM (mulM (mt n t) (mt n o)) := by
  unfold m_sum_of_two crossOf
  rw [sumQ_eq, sumL_flatMap, sumL_enum ([] : List Rat), ht.1]
  refine Eq.trans ?_ ((range_fin (n := n) (fun k => sumL (List.range n) fun j => ent t k j * ent o j k)).trans ?_)
  · refine sumL_congr fun k hk => ?_
    rw [sumL_map, sumL_enum (0 : Rat)]
    simp only
    have e : ((t[k]?).getD []).length = n := ht.2 _ (al_mem (t := t) (i := k) (by rw [ht.1]; exact List.mem_range.mp hk))
    rw [e]
    exact sumL_congr fun j _ => rfl
  · show sumL _ _ = sumL _ _
    refine sumL_congr fun i _ => ?_
    rw [range_fin]
    rfl
theorem sums_R {n : Nat} {S T : Mt n} {h h' : Hou} (L : Led n S T h h') : m_sums_of (m_base_of h') = m_sums_of (m_base_of h) := by
  unfold m_sums_of
  have key : ∀ {l l' : List (List Int × Tab)}, AllR (BaR S T) l l' → ∀ {m m' : List (List Int × Tab)}, AllR (BaR S T) m m' → ((l'.map fun p => p.2).map fun n => (m'.map fun p => p.2).map fun f => m_sum_of_two n f) = ((l.map fun p => p.2).map fun n => (m.map fun p => p.2).map fun f => m_sum_of_two n f) := by
    intro l l' h1
    induction h1 with
    | nil => intro m m' _; rfl
    | cons r _ ih =>
      intro m m' h2
      obtain ⟨_, r1, r2, r3⟩ := r
      rw [List.map_cons, List.map_cons, List.map_cons, List.map_cons, ih h2]
      congr 1
      rw [List.map_map, List.map_map]
      induction h2 with
      | nil => rfl
      | cons q _ ih2 =>
        obtain ⟨_, q1, q2, q3⟩ := q
        rw [List.map_cons, List.map_cons, ih2]
        congr 1
        show m_sum_of_two _ _ = m_sum_of_two _ _
        rw [sum_two r2 q2, sum_two r1 q1, r3, q3, conj_mul L.ts, conj_tr L.ts]
  exact key (baseOf_R L) (baseOf_R L)
theorem parts_R {n : Nat} {S T : Mt n} {h h' : Hou} (L : Led n S T h h') : m_parts h' = m_parts h := by
  show m_parts_of h' = m_parts_of h
  unfold m_parts_of
  rw [sums_R L, (baseOf_R L).length]
end PL
set_option Elab.async false
set_option linter.all false
set_option maxRecDepth 100000
/-! What commutes, the middle. -/
namespace PL
open TW LA
open L2 hiding V
theorem an_set {r : List Int} {p : Nat} {x : Int} (h : p < r.length) (i : Nat) : an (r.set p x) i = if i = p then x else an r i := by
  unfold an
  rw [List.getElem?_set]
  by_cases e : p = i
  · subst e
    rw [if_pos rfl, if_pos rfl, if_pos h]; rfl
  · rw [if_neg e, if_neg (fun h => e h.symm)]
theorem pick_range {W p : Nat} (hp : p < W) (a : Rat) (v : V) : sumL (List.range W) (fun j => (if j = p then a else 0) * v j) = a * v p := by
  rw [← sum_pick (l := List.range W) List.nodup_range (List.mem_range.mpr hp) (fun j => a * v j)]
  exact sumL_congr fun j _ => by split <;> grind
theorem add_dot {W p : Nat} {row : List Int} (hl : row.length = W) (hp : p < W) (x : Int) (v : V) : (addAt row (p : Int) x).length = W ∧ dot W (vI (addAt row (p : Int) x)) v = dot W (vI row) v + (x : Rat) * v p := by
  unfold addAt
  rw [at0_nat, Int.toNat_natCast]
  refine ⟨by rw [List.length_set, hl], ?_⟩
  unfold dot
  rw [← pick_range hp (x : Rat) v, ← sumL_add]
  refine sumL_congr fun j _ => ?_
  unfold vI
  rw [an_set (by omega)]
  by_cases h : j = p
  · rw [if_pos h, if_pos h, h, Rat.intCast_add]; grind
  · rw [if_neg h, if_neg h]; grind
theorem upto_succ (k : Nat) : upto (k + 1) = upto k ++ [(k : Int)] := by
  unfold upto
  rw [List.range_succ, List.map_append]
  rfl
theorem lead_dot {n l p : Nat} (hl : l < n) (hp : p < n) (here there : List Int) (v : V) (k : Nat) (hk : k ≤ n) :
    ((upto k).foldl (leadStep here there n (l : Int) (p : Int)) (List.replicate (n * n) 0)).length = n * n ∧
    dot (n * n) (vI ((upto k).foldl (leadStep here there n (l : Int) (p : Int)) (List.replicate (n * n) 0))) v = sumL (List.range k) fun i => ((an here (l * n + i) : Int) : Rat) * v (i * n + p) - ((an there (i * n + p) : Int) : Rat) * v (l * n + i) := by
  induction k with
  | zero =>
    refine ⟨List.length_replicate .., ?_⟩
    show dot _ (vI (List.replicate (n * n) 0)) v = 0
    unfold dot
    refine sumL_zero fun i _ => ?_
    have : vI (List.replicate (n * n) 0) i = 0 := by
      unfold vI an
      by_cases h : i < n * n
      · rw [List.getElem?_replicate, if_pos h]; rfl
      · rw [List.getElem?_replicate, if_neg h]; rfl
    rw [this]; grind
  | succ k ih =>
    obtain ⟨i1, i2⟩ := ih (by omega)
    rw [upto_succ, List.foldl_append, List.foldl_cons, List.foldl_nil]
    generalize (upto k).foldl (leadStep here there n (l : Int) (p : Int)) (List.replicate (n * n) 0) = row at i1 i2 ⊢
    have e : leadStep here there n (l : Int) (p : Int) row (k : Int) = addAt (addAt row ((k * n + p : Nat) : Int) (an here (l * n + k))) ((l * n + k : Nat) : Int) (-(an there (k * n + p))) := by
      unfold leadStep
      rw [← Int.natCast_mul, ← Int.natCast_mul, ← Int.natCast_add, ← Int.natCast_add, at0_nat, at0_nat]
    rw [e]
    obtain ⟨a1, a2⟩ := add_dot i1 (ij_lt (show k < n by omega) hp) (an here (l * n + k)) v
    obtain ⟨b1, b2⟩ := add_dot a1 (ij_lt hl (show k < n by omega)) (-(an there (k * n + p))) v
    refine ⟨b1, ?_⟩
    rw [b2, a2, i2, List.range_succ, sumL_append, sumL_cons, sumL_nil, Rat.intCast_neg]
    grind
theorem both_spec {n : Nat} {t : Tab} (ht : Shp t n n) : ∃ c : Rat, c ≠ 0 ∧ (∀ i j, i < n → j < n → ((an ((bothOf t t).take (n * n)) (i * n + j) : Int) : Rat) = c * ent t i j) ∧ ∀ i j, i < n → j < n → ((an ((bothOf t t).drop (n * n)) (i * n + j) : Int) : Rat) = c * ent t i j := by
  unfold bothOf m_long_of
  obtain ⟨w1, w2⟩ := wholes_spec (t.flatten ++ t.flatten)
  have fl := flatten_len ht
  refine ⟨(lcmL (t.flatten ++ t.flatten) : Rat), cast_ne (by have := lcm_pos (t.flatten ++ t.flatten); omega), fun i j hi hj => ?_, fun i j hi hj => ?_⟩
  · have hlt := ij_lt hi hj
    have := w2 (i * n + j)
    unfold vI vQ an aq at this
    unfold an
    rw [List.getElem?_take_of_lt hlt, this, List.getElem?_append_left (by omega), flatten_at ht hi hj]
    rfl
  · have hlt := ij_lt hi hj
    have := w2 (n * n + (i * n + j))
    unfold vI vQ an aq at this
    unfold an
    rw [List.getElem?_drop, this, List.getElem?_append_right (by omega), fl, Nat.add_sub_cancel_left, flatten_at ht hi hj]
    rfl
theorem zip_self {α : Type} {l : List α} {p : α × α} : p ∈ l.zip l ↔ p.1 = p.2 ∧ p.1 ∈ l := by
  induction l with
  | nil => simp
  | cons a l ih =>
    rw [List.zip_cons_cons, List.mem_cons, ih, List.mem_cons]
    constructor
    · rintro (rfl | ⟨h1, h2⟩)
      · exact ⟨rfl, .inl rfl⟩
      · exact ⟨h1, .inr h2⟩
    · rintro ⟨h1, h2 | h2⟩
      · exact .inl (Prod.ext h2 (h1 ▸ h2))
      · exact .inr ⟨h1, h2⟩
/-- what commutes with the letters, as a long row -/
def Com (n : Nat) (h : Hou) (v : V) : Prop := (∀ i, n * n ≤ i → v i = 0) ∧ ∀ t ∈ h.ls, mulM (mt n t) (mat n v) = mulM (mat n v) (mt n t)
theorem lead_mem {n : Nat} {h : Hou} (H : Sq n h) {r : List Int} : r ∈ leadsRows h h ↔ ∃ t ∈ h.ls, ∃ l p : Nat, l < n ∧ p < n ∧ r = leadRow ((bothOf t t).take (n * n)) ((bothOf t t).drop (n * n)) n (l : Int) (p : Int) := by
  unfold leadsRows m_lead_rows
  rw [List.mem_flatMap]
  constructor
  · rintro ⟨⟨t, t'⟩, hz, hr⟩
    obtain ⟨e, ht⟩ := zip_self.mp hz
    simp only at e ht
    subst e
    rw [List.mem_flatMap] at hr
    obtain ⟨l, hl, hr⟩ := hr
    unfold lineRows at hr
    obtain ⟨p, hp, rfl⟩ := List.mem_map.mp hr
    simp only at hl hp
    rw [(H.ls t ht).1] at hl hp
    obtain ⟨l, rfl, hl2⟩ := upto_memN hl
    obtain ⟨p, rfl, hp2⟩ := upto_memN hp
    refine ⟨t, ht, l, p, hl2, hp2, ?_⟩
    simp only
    rw [(H.ls t ht).1]
  · rintro ⟨t, ht, l, p, hl, hp, rfl⟩
    refine ⟨(t, t), zip_self.mpr ⟨rfl, ht⟩, List.mem_flatMap.mpr ⟨(l : Int), ?_, ?_⟩⟩
    · simp only
      rw [(H.ls t ht).1]
      exact List.mem_of_getElem? (upto_get hl)
    · unfold lineRows
      simp only
      rw [(H.ls t ht).1]
      exact List.mem_map.mpr ⟨(p : Int), List.mem_of_getElem? (upto_get hp), rfl⟩
theorem lead_wd {n : Nat} {h : Hou} (H : Sq n h) : ∀ r ∈ leadsRows h h, r.length = n * n := fun r hr => by
  obtain ⟨t, ht, l, p, hl, hp, rfl⟩ := (lead_mem H).mp hr
  exact (lead_dot hl hp _ _ (fun _ => 0) n (Nat.le_refl _)).1
theorem lead_row {n : Nat} {t : Tab} (ht : Shp t n n) : ∃ c : Rat, c ≠ 0 ∧ ∀ (l p : Nat) (hl : l < n) (hp : p < n) (v : V), dot (n * n) (vI (leadRow ((bothOf t t).take (n * n)) ((bothOf t t).drop (n * n)) n (l : Int) (p : Int))) v = c * (mulM (mt n t) (mat n v) ⟨l, hl⟩ ⟨p, hp⟩ - mulM (mat n v) (mt n t) ⟨l, hl⟩ ⟨p, hp⟩) := by
  obtain ⟨c, hc, h1, h2⟩ := both_spec ht
  refine ⟨c, hc, fun l p hl hp v => ?_⟩
  unfold leadRow
  rw [(lead_dot hl hp _ _ v n (Nat.le_refl _)).2]
  have e : mulM (mt n t) (mat n v) ⟨l, hl⟩ ⟨p, hp⟩ = sumL (List.range n) fun i => ent t l i * v (i * n + p) := (range_fin fun i => ent t l i * v (i * n + p)).symm
  have e2 : mulM (mat n v) (mt n t) ⟨l, hl⟩ ⟨p, hp⟩ = sumL (List.range n) fun i => v (l * n + i) * ent t i p := (range_fin fun i => v (l * n + i) * ent t i p).symm
  rw [e, e2]
  have e3 : ∀ x y : Rat, c * (x - y) = c * x + (-c) * y := fun x y => by grind
  rw [e3, ← sumL_mul, ← sumL_mul, ← sumL_add]
  exact sumL_congr fun i hi => by rw [h1 l i hl (List.mem_range.mp hi), h2 i p (List.mem_range.mp hi) hp]; grind
theorem com_ker {n : Nat} {h : Hou} (H : Sq n h) (v : V) : Ker (n * n) (SpI (leadsRows h h)) v ↔ Com n h v := by
  constructor
  · intro ⟨k1, k2⟩
    refine ⟨k1, fun t ht => ?_⟩
    obtain ⟨c, hc, k⟩ := lead_row (H.ls t ht)
    funext i j
    have := k2 _ (SpI.of ((lead_mem H).mpr ⟨t, ht, i.val, j.val, i.isLt, j.isLt, rfl⟩))
    rw [k i.val j.val i.isLt j.isLt v] at this
    have e : mulM (mt n t) (mat n v) i j - mulM (mat n v) (mt n t) i j = 0 := by grind
    grind
  · intro ⟨k1, k2⟩
    refine ⟨k1, fun u hu => Sp.null (dot_lin (n * n) v) (fun w ⟨r, hr, e⟩ => ?_) hu⟩
    obtain ⟨t, ht, l, p, hl, hp, rfl⟩ := (lead_mem H).mp hr
    obtain ⟨c, hc, k⟩ := lead_row (H.ls t ht)
    rw [← e, k l p hl hp v, k2 t ht]
    grind
theorem nn_cast (n : Nat) : (n : Int) * (n : Int) = ((n * n : Nat) : Int) := by simp
theorem com_dim {n : Nat} {h : Hou} (H : Sq n h) : HasDim (Com n h) (m_commuting h).length := by
  show HasDim (Com n h) ((m_kernel_of (m_told_rows (m_int_steps (leadsRows h h))) ((h.n : Int) * (h.n : Int))).map fun r => m_short_of r (h.n : Int)).length
  rw [List.length_map, H.wd, nn_cast]
  obtain ⟨i1, i2, _⟩ := int_spec (lead_wd H)
  have wd : ∀ r ∈ m_told_rows (m_int_steps (leadsRows h h)), r.length = n * n := fun r hr => by
    obtain ⟨q, hq, rfl⟩ := List.mem_map.mp hr
    rw [(told_spec q).1, (i1.wd q hq).1]
  obtain ⟨_, k2, _⟩ := kernel_spec wd
  exact k2.congr fun v => (Ker.congr (fun u => (told_same i1 u).symm.trans (i2 u).symm) v).trans (com_ker H v)
theorem Led.sym {n : Nat} {S T : Mt n} {h h' : Hou} (L : Led n S T h h') : Led n T S h' h := by
  refine ⟨L.sq', L.sq, L.ts, L.st, ?_⟩
  have key : ∀ {a b : List Tab}, AllR (fun t t' => mt n t' = conj S T (mt n t)) a b → AllR (fun t t' => mt n t' = conj T S (mt n t)) b a := by
    intro a b h
    induction h with
    | nil => exact .nil
    | cons r _ ih => exact .cons (by rw [r, conj_back L.ts]) ih
  exact key L.ls
theorem com_led {n : Nat} {S T : Mt n} {h h' : Hou} (L : Led n S T h h') {v : V} (k : Com n h v) : Com n h' (cj S T v) := by
  refine ⟨fun i hi => flat_ge _ i hi, fun t' ht' => ?_⟩
  obtain ⟨t, ht, e⟩ := L.ls.mem' ht'
  unfold cj
  rw [mat_flat, e, conj_mul L.ts, conj_mul L.ts, k.2 t ht]
theorem com_R {n : Nat} {S T : Mt n} {h h' : Hou} (L : Led n S T h h') : (m_commuting h').length = (m_commuting h).length :=
  (com_dim L.sq').unique ((com_dim L.sq).move (cj_lin S T) (cj_lin T S) (fun v k => com_led L k) (fun v k => com_led L.sym k) (fun v k => cj_back L.st k.1) (fun v k => cj_back L.ts k.1))
/-! the lot -/
theorem led_self {n : Nat} {h : Hou} (H : Sq n h) : Led n oneM oneM h h :=
  ⟨H, H, one_mulM _, one_mulM _, AllR.self fun t _ => by unfold conj; rw [one_mulM, mul_oneM]⟩
theorem base_shp {n : Nat} {h : Hou} (H : Sq n h) {t : Tab} (ht : t ∈ baseT h) : Shp t n n := by
  obtain ⟨p, hp, rfl⟩ := List.mem_map.mp ht
  obtain ⟨_, _, r⟩ := (baseOf_R (led_self H)).mem hp
  exact r.2.1
def LotS (h : Hou) (v : V) : Prop := SpI ((baseT h).map m_long_ints) v
theorem long_ints_spec {n : Nat} {t : Tab} (ht : Shp t n n) : (m_long_ints t).length = n * n ∧ ∃ c : Rat, c ≠ 0 ∧ ∀ i, vI (m_long_ints t) i = c * flat (mt n t) i := by
  unfold m_long_ints m_long_of
  obtain ⟨w1, w2⟩ := wholes_spec t.flatten
  refine ⟨by rw [w1, flatten_len ht], (lcmL t.flatten : Rat), cast_ne (by have := lcm_pos t.flatten; omega), fun i => ?_⟩
  rw [w2, long_flat ht]
theorem cj_smul {n : Nat} (S T : Mt n) (c : Rat) (u : V) : cj S T (fun i => c * u i) = fun i => c * cj S T u i := by
  have := cj_lin S T c u (fun _ => 0)
  rw [show (fun i => c * u i) = fun i => c * u i + 0 from funext fun i => by grind, this]
  funext i
  rw [(cj_lin S T).zero]; grind
theorem lot_led {n : Nat} {S T : Mt n} {h h' : Hou} (L : Led n S T h h') {v : V} (k : LotS h v) : LotS h' (cj S T v) := by
  refine Sp.map (cj_lin S T) (fun u ⟨r, hr, e⟩ => ?_) k
  obtain ⟨t, ht, rfl⟩ := List.mem_map.mp hr
  obtain ⟨p, hp, rfl⟩ := List.mem_map.mp ht
  obtain ⟨p', hp', _, s1, s2, m1⟩ := (baseOf_R L).mem hp
  obtain ⟨_, c, hc, k1⟩ := long_ints_spec s1
  obtain ⟨_, c', hc', k2⟩ := long_ints_spec s2
  have hm : SpI ((baseT h').map m_long_ints) (vI (m_long_ints p'.2)) := SpI.of (List.mem_map.mpr ⟨_, List.mem_map.mpr ⟨p', hp', rfl⟩, rfl⟩)
  rw [← e, show vI (m_long_ints p.2) = fun i => c * flat (mt n p.2) i from funext k1, cj_smul, cj_flat, ← m1]
  exact (Sp.smul (c * c'⁻¹) hm).cast fun i => by rw [k2]; grind
theorem lot_supp {n : Nat} {h : Hou} (H : Sq n h) {v : V} (k : LotS h v) : ∀ i, n * n ≤ i → v i = 0 := fun i hi =>
  Sp.null (linF_at i) (fun u ⟨r, hr, e⟩ => by
    obtain ⟨t, ht, rfl⟩ := List.mem_map.mp hr
    rw [← e]
    exact vI_ge (by rw [(long_ints_spec (base_shp H ht)).1]; exact hi)) k
/-! the middle -/
theorem short_spec {n : Nat} {r : List Rat} (hr : r.length = n * n) : Shp (m_short_of r (n : Int)) n n ∧ mt n (m_short_of r (n : Int)) = mat n (vQ r) := by
  unfold m_short_of
  rw [Int.toNat_natCast]
  obtain ⟨c1, c2⟩ := chop_spec hr
  refine ⟨c1, ?_⟩
  funext i j
  show ((al (chop r n n) i.val)[j.val]?).getD 0 = (r[i.val * n + j.val]?).getD 0
  rw [c2 i.val j.val i.isLt j.isLt]
theorem mixed_spec {n : Nat} {t o : Tab} (ht : Shp t n n) (ho : Shp o n n) (q : Rat) : Shp (m_mixed_of t o q) n n ∧ mt n (m_mixed_of t o q) = fun i j => mt n t i j + q * mt n o i j := by
  unfold m_mixed_of
  refine ⟨⟨by rw [List.length_map, List.length_zip, ht.1, ho.1, Nat.min_self], fun r hr => ?_⟩, ?_⟩
  · obtain ⟨p, hp, rfl⟩ := List.mem_map.mp hr
    have := List.of_mem_zip hp
    rw [List.length_map, List.length_zip, ht.2 _ this.1, ho.2 _ this.2, Nat.min_self]
  · funext i j
    have h1 : i.val < t.length := by rw [ht.1]; exact i.isLt
    have h2 : i.val < o.length := by rw [ho.1]; exact i.isLt
    have h3 := ht.2 _ (List.getElem_mem h1)
    have h4 := ho.2 _ (List.getElem_mem h2)
    show aq (al _ i.val) j.val = aq (al t i.val) j.val + q * aq (al o i.val) j.val
    rw [al_lt (by rw [List.length_map, List.length_zip]; omega), List.getElem_map, List.getElem_zip, al_lt h1, al_lt h2]
    have := j.isLt
    simp only
    rw [aq_lt (by rw [List.length_map, List.length_zip]; omega), List.getElem_map, List.getElem_zip, aq_lt (by omega), aq_lt (by omega)]
/-- what a letter's two products differ by -/
def apart {n : Nat} (X : Mt n) (v : V) : V := flat fun i j => mulM X (mat n v) i j + (-1) * mulM (mat n v) X i j
theorem apart_lin {n : Nat} (X : Mt n) : Lin (apart X) := fun a u v => by
  unfold apart
  have e : mat n (fun i => a * u i + v i) = fun i j => a * mat n u i j + mat n v i j := rfl
  funext x
  rw [e, mul_linr, mul_linl]
  unfold flat
  by_cases h : x < n * n
  · rw [dif_pos h, dif_pos h, dif_pos h]; grind
  · rw [dif_neg h, dif_neg h, dif_neg h]; grind
theorem apart_spec {n : Nat} {l t : Tab} (hl : Shp l n n) (ht : Shp t n n) (hn : 0 < n) : (m_apart_of l t).length = n * n ∧ vQ (m_apart_of l t) = flat fun i j => mulM (mt n l) (mt n t) i j + (-1) * mulM (mt n t) (mt n l) i j := by
  obtain ⟨p1, p2⟩ := prod_mt hl ht hn
  obtain ⟨q1, q2⟩ := prod_mt ht hl hn
  obtain ⟨m1, m2⟩ := mixed_spec p1 q1 (-1)
  unfold m_apart_of m_long_of
  refine ⟨flatten_len m1, ?_⟩
  rw [long_flat m1, m2, p2, q2]
theorem apart_zero {n : Nat} {X : Mt n} {v : V} : (∀ p, p < n * n → apart X v p = 0) ↔ mulM X (mat n v) = mulM (mat n v) X := by
  constructor
  · intro h
    funext i j
    have := h _ (ij_lt i.isLt j.isLt)
    have e : apart X v (i.val * n + j.val) = mulM X (mat n v) i j + (-1) * mulM (mat n v) X i j := congrFun (congrFun (mat_flat fun i j => mulM X (mat n v) i j + (-1) * mulM (mat n v) X i j) i) j
    rw [e] at this
    grind
  · intro h p hp
    unfold apart flat
    rw [dif_pos hp, h]
    grind
/-- a mixture of rows -/
def mix (rows : List (List Rat)) (c : V) : V := fun i => sumL (List.range rows.length) fun j => c j * vQ (al rows j) i
theorem mix_lin (rows : List (List Rat)) : Lin (mix rows) := fun a u v => by
  funext i
  show sumL _ _ = a * sumL _ _ + sumL _ _
  rw [← sumL_mul, ← sumL_add]
  exact sumL_congr fun j _ => by grind
theorem mix_span (rows : List (List Rat)) (c : V) : SpQ rows (mix rows c) :=
  Sp.list (e := fun j i => vQ (al rows j) i) (fun j => c j) fun j hj => SpQ.of (al_mem (List.mem_range.mp hj))
theorem span_mix {rows : List (List Rat)} {v : V} (h : SpQ rows v) : ∃ c : V, (∀ j, rows.length ≤ j → c j = 0) ∧ v = mix rows c := by
  refine Sp.all (C := fun v => ∃ c : V, (∀ j, rows.length ≤ j → c j = 0) ∧ v = mix rows c) ⟨fun _ => 0, fun _ _ => rfl, funext fun i => (sumL_zero fun j _ => by grind).symm⟩ (fun a u v ⟨r, hr, e⟩ ⟨c, hc, ev⟩ => ?_) h
  obtain ⟨j, hj, ej⟩ := mem_al hr
  refine ⟨fun i => a * (if i = j then 1 else 0) + c i, fun i hi => ?_, ?_⟩
  · show a * (if i = j then 1 else 0) + c i = 0
    rw [hc i hi, if_neg (by omega)]; grind
  · rw [mix_lin rows a (fun i => if i = j then 1 else 0) c, ← ev]
    funext i
    have : mix rows (fun i => if i = j then 1 else 0) i = u i := by
      show sumL _ _ = _
      rw [sumL_congr (g := fun k => (if k = j then 1 else 0) * (fun k => vQ (al rows k) i) k) fun k _ => rfl, pick_range hj 1 fun k => vQ (al rows k) i, ej, e]
      grind
    rw [this]
theorem mixPut_spec {W : Nat} {found : List Rat} {q : Rat} {r : List Rat} (h1 : found.length = W) (h2 : r.length = W) : (mixPut found (q, r)).length = W ∧ ∀ i, vQ (mixPut found (q, r)) i = vQ found i + q * vQ r i := by
  unfold mixPut
  simp only
  by_cases h : q.num.sign ≠ 0
  · rw [if_pos h]
    refine ⟨by rw [List.length_map, List.length_zip]; omega, fun i => ?_⟩
    unfold vQ
    by_cases hi : i < W
    · rw [aq_lt (by rw [List.length_map, List.length_zip]; omega), List.getElem_map, List.getElem_zip, aq_lt (by omega), aq_lt (by omega)]
    · rw [aq_ge (by rw [List.length_map, List.length_zip]; omega), aq_ge (by omega), aq_ge (by omega)]; grind
  · rw [if_neg h]
    refine ⟨h1, fun i => ?_⟩
    have : q = 0 := by
      have h : q.num.sign = 0 := by simpa using h
      exact Rat.num_eq_zero.mp (Int.sign_eq_zero_iff_zero.mp h)
    rw [this]; grind
theorem mixRow_spec {W : Nat} {rows : List (List Rat)} (hw : ∀ r ∈ rows, r.length = W) (hne : rows ≠ []) {ns : List Rat} (hl : ns.length = rows.length) : (m_mixed_row ns rows).length = W ∧ ∀ i, vQ (m_mixed_row ns rows) i = mix rows (vQ ns) i := by
  have wd : wideQ rows = W := by
    cases rows with
    | nil => exact absurd rfl hne
    | cons r l => exact hw r (List.mem_cons_self ..)
  unfold m_mixed_row
  rw [wd]
  have key : ∀ (z : List (Rat × List Rat)) (f : List Rat), f.length = W → (∀ p ∈ z, p.2.length = W) → (z.foldl mixPut f).length = W ∧ ∀ i, vQ (z.foldl mixPut f) i = vQ f i + sumL z fun p => p.1 * vQ p.2 i := fun z => by
    induction z with
    | nil => exact fun f hf _ => ⟨hf, fun i => by rw [sumL_nil]; show vQ f i = _; grind⟩
    | cons p z ih =>
      intro f hf hz
      obtain ⟨a1, a2⟩ := mixPut_spec (q := p.1) (r := p.2) hf (hz p (List.mem_cons_self ..))
      obtain ⟨b1, b2⟩ := ih (mixPut f p) a1 fun q hq => hz q (List.mem_cons_of_mem _ hq)
      refine ⟨b1, fun i => ?_⟩
      rw [List.foldl_cons, b2, a2, sumL_cons]
      grind
  obtain ⟨k1, k2⟩ := key (ns.zip rows) (List.replicate W 0) (List.length_replicate ..) fun p hp => hw _ (List.of_mem_zip hp).2
  refine ⟨k1, fun i => ?_⟩
  rw [k2]
  have z : vQ (List.replicate W 0) i = 0 := by
    unfold vQ aq
    rw [List.getElem?_replicate]
    split <;> rfl
  rw [z, sumL_zip (0 : Rat) ([] : List Rat) _ hl, hl]
  show 0 + sumL (List.range rows.length) (fun k => vQ ns k * vQ (al rows k) i) = sumL (List.range rows.length) fun k => vQ ns k * vQ (al rows k) i
  grind
/-- the told rows of the lot -/
def lotQ (h : Hou) : List (List Rat) := m_told_rows (m_int_lot h)
theorem lotQ_spec {n : Nat} {h : Hou} (H : Sq n h) : (∀ r ∈ lotQ h, r.length = n * n) ∧ ∀ v, SpQ (lotQ h) v ↔ LotS h v := by
  have wd : ∀ r ∈ (baseT h).map m_long_ints, r.length = n * n := fun r hr => by
    obtain ⟨t, ht, rfl⟩ := List.mem_map.mp hr
    exact (long_ints_spec (base_shp H ht)).1
  obtain ⟨i1, i2, _⟩ := int_spec wd
  refine ⟨fun r hr => ?_, fun v => (told_same i1 v).symm.trans (i2 v).symm⟩
  obtain ⟨q, hq, rfl⟩ := List.mem_map.mp hr
  rw [(told_spec q).1, (i1.wd q hq).1]
theorem run_idle {h : Hou} (k : Nat) : ∃ more, (runB [h] k).found = ([], [m_idle_of (h.n : Int)]) :: more := by
  induction k with
  | zero => exact ⟨[], rfl⟩
  | succ k ih =>
    obtain ⟨m, e⟩ := ih
    exact ⟨m ++ (wordsB [h] ((runB [h] k).rows, []) (runB [h] k).last).2, by show (runB [h] k).found ++ _ = _; rw [e]; rfl⟩
theorem lotQ_ne {n : Nat} {h : Hou} (H : Sq n h) : lotQ h ≠ [] := by
  intro e
  obtain ⟨m, e2⟩ := run_idle (h := h) (endB [h] 20 0)
  have hb : m_idle_of (n : Int) ∈ baseT h := by
    unfold baseT m_base_of m_base_with
    rw [e2, H.wd]
    exact List.mem_map.mpr ⟨([], m_idle_of (n : Int)), List.mem_map.mpr ⟨_, List.mem_cons_self .., rfl⟩, rfl⟩
  obtain ⟨i1, i2⟩ := idle_mt n
  obtain ⟨_, c, hc, k⟩ := long_ints_spec i1
  have hl : LotS h (vI (m_long_ints (m_idle_of (n : Int)))) := SpI.of (List.mem_map.mpr ⟨_, hb, rfl⟩)
  have hs := ((lotQ_spec H).2 _).mpr hl
  rw [e] at hs
  have z : vI (m_long_ints (m_idle_of (n : Int))) 0 = 0 := Sp.null (linF_at 0) (fun u ⟨r, hr, _⟩ => nomatch hr) hs
  rw [k, i2] at z
  have n0 := H.pos
  have f0 : flat (oneM : Mt n) 0 = 1 := by
    unfold flat oneM
    rw [dif_pos (Nat.mul_pos n0 n0), if_pos (Fin.ext (by simp))]
  rw [f0] at z
  grind
def Mid (n : Nat) (h : Hou) (v : V) : Prop := LotS h v ∧ Com n h v
theorem mid_mem {h : Hou} {r : List Rat} : r ∈ midLines h ↔ ∃ l ∈ h.ls, ∃ p : Nat, p < h.n * h.n ∧ r = (lotT h).map fun t => aq (m_apart_of l t) p := by
  unfold midLines turned colsOf
  rw [List.mem_flatMap]
  constructor
  · rintro ⟨l, hl, hr⟩
    obtain ⟨p, hp, rfl⟩ := List.mem_map.mp hr
    obtain ⟨p, rfl, hp2⟩ := upto_memN hp
    exact ⟨l, hl, p, hp2, by rw [List.map_map]; rfl⟩
  · rintro ⟨l, hl, p, hp, rfl⟩
    exact ⟨l, hl, List.mem_map.mpr ⟨(p : Int), List.mem_of_getElem? (upto_get hp), by rw [List.map_map]; rfl⟩⟩
theorem mid_wd {h : Hou} : ∀ r ∈ midLines h, r.length = (lotQ h).length := fun r hr => by
  obtain ⟨l, hl, p, hp, rfl⟩ := mid_mem.mp hr
  rw [List.length_map]
  unfold lotT lotQ
  rw [List.length_map]
theorem mid_dot {n : Nat} {h : Hou} (H : Sq n h) {l : Tab} (hl : l ∈ h.ls) {p : Nat} (hp : p < n * n) (c : V) : dot (lotQ h).length (vQ ((lotT h).map fun t => aq (m_apart_of l t) p)) c = apart (mt n l) (mix (lotQ h) c) p := by
  have lin := (apart_lin (mt n l)).sum (List.range (lotQ h).length) (fun j => c j) (fun j => vQ (al (lotQ h) j))
  have := congrFun lin p
  show sumL _ _ = apart (mt n l) (fun i => sumL (List.range (lotQ h).length) fun j => c j * vQ (al (lotQ h) j) i) p
  rw [this]
  refine sumL_congr fun j hj => ?_
  have hj' := List.mem_range.mp hj
  have hjl : j < (lotT h).length := by unfold lotT; rw [List.length_map]; exact hj'
  have wd := (lotQ_spec H).1 _ (al_mem hj')
  obtain ⟨s1, s2⟩ := short_spec wd
  have et : (lotT h)[j] = m_short_of (al (lotQ h) j) (n : Int) := by
    have e0 : (lotT h)[j] = m_short_of (lotQ h)[j] (h.n : Int) := List.getElem_map (fun r => m_short_of r (h.n : Int)) (l := lotQ h) (i := j) (h := hjl)
    rw [e0, H.wd, al_lt hj']
  have e : vQ ((lotT h).map fun t => aq (m_apart_of l t) p) j = apart (mt n l) (vQ (al (lotQ h) j)) p := by
    show aq _ j = _
    rw [aq_lt (by rw [List.length_map]; exact hjl), List.getElem_map, et]
    show vQ (m_apart_of l (m_short_of (al (lotQ h) j) (n : Int))) p = _
    rw [(apart_spec (H.ls l hl) s1 H.pos).2, s2]
    rfl
  rw [e]; grind
theorem mid_span {n : Nat} {h : Hou} (H : Sq n h) (v : V) : SpQ (midFound h) v ↔ Mid n h v := by
  obtain ⟨q1, q2⟩ := lotQ_spec H
  have ne := lotQ_ne H
  obtain ⟨k1, _, k3⟩ := kernel_spec (W := (lotQ h).length) (rows := midLines h) mid_wd
  have kc : ∀ c, Ker (lotQ h).length (SpQ (midLines h)) c → ∀ l ∈ h.ls, mulM (mt n l) (mat n (mix (lotQ h) c)) = mulM (mat n (mix (lotQ h) c)) (mt n l) := fun c hc l hl => apart_zero.mp fun p hp => by
    rw [← mid_dot H hl hp c]
    exact hc.2 _ (SpQ.of (mid_mem.mpr ⟨l, hl, p, by rw [H.wd]; exact hp, rfl⟩))
  have mf : midFound h = (m_kernel_of (midLines h) ((lotQ h).length : Int)).map fun ns => m_mixed_row ns (lotQ h) := rfl
  constructor
  · intro hv
    have ⟨c, hc, e⟩ : ∃ c, SpQ (m_kernel_of (midLines h) ((lotQ h).length : Int)) c ∧ v = mix (lotQ h) c := by
      refine Sp.all (C := fun v => ∃ c, SpQ (m_kernel_of (midLines h) ((lotQ h).length : Int)) c ∧ v = mix (lotQ h) c) ⟨fun _ => 0, .zero, funext fun i => ((mix_lin (lotQ h)).zero i).symm⟩ (fun a u w ⟨r, hr, e⟩ ⟨c, hc, ec⟩ => ?_) hv
      rw [mf] at hr
      obtain ⟨ns, hns, rfl⟩ := List.mem_map.mp hr
      have hm := (mixRow_spec q1 ne (k3 ns hns)).2
      refine ⟨_, Sp.add a (SpQ.of hns) hc, ?_⟩
      rw [mix_lin, ← ec, ← e]
      funext i
      rw [hm]
    have hl : LotS h v := (q2 v).mp (by rw [e]; exact mix_span _ _)
    refine ⟨hl, lot_supp H hl, fun t ht => ?_⟩
    rw [e]
    exact kc c ((k1 c).mp hc) t ht
  · intro ⟨hl, _, hc⟩
    obtain ⟨c, c0, e⟩ := span_mix ((q2 v).mpr hl)
    have hk : Ker (lotQ h).length (SpQ (midLines h)) c := by
      refine ⟨c0, fun u hu => Sp.null (dot_lin _ c) (fun w ⟨r, hr, er⟩ => ?_) hu⟩
      obtain ⟨l, hl, p, hp, rfl⟩ := mid_mem.mp hr
      rw [H.wd] at hp
      rw [← er, mid_dot H hl hp c, ← e]
      exact apart_zero.mpr (hc l hl) p hp
    rw [e]
    refine Sp.map (mix_lin (lotQ h)) (fun u ⟨ns, hns, eu⟩ => ?_) ((k1 c).mpr hk)
    refine (SpQ.of (L := midFound h) (List.mem_map.mpr ⟨ns, hns, rfl⟩)).cast fun i => ?_
    rw [← eu]
    exact ((mixRow_spec q1 ne (k3 ns hns)).2 i).symm
theorem midFound_wd {n : Nat} {h : Hou} (H : Sq n h) : ∀ r ∈ midFound h, r.length = n * n := fun r hr => by
  obtain ⟨_, _, k3⟩ := kernel_spec (W := (lotQ h).length) (rows := midLines h) mid_wd
  obtain ⟨ns, hns, rfl⟩ := List.mem_map.mp hr
  exact (mixRow_spec (lotQ_spec H).1 (lotQ_ne H) (k3 ns hns)).1
theorem mid_dim {n : Nat} {h : Hou} (H : Sq n h) : HasDim (Mid n h) (m_middle h).length := by
  show HasDim (Mid n h) ((m_steps_of (midFound h)).map fun r => m_short_of r (h.n : Int)).length
  rw [List.length_map]
  exact (steps_dim (midFound_wd H)).congr fun v => mid_span H v
theorem mid_R {n : Nat} {S T : Mt n} {h h' : Hou} (L : Led n S T h h') : (m_middle h').length = (m_middle h).length :=
  (mid_dim L.sq').unique ((mid_dim L.sq).move (cj_lin S T) (cj_lin T S) (fun v k => ⟨lot_led L k.1, com_led L k.2⟩) (fun v k => ⟨lot_led L.sym k.1, com_led L.sym k.2⟩) (fun v k => cj_back L.st k.2.1) (fun v k => cj_back L.ts k.2.1))
end PL
set_option Elab.async false
set_option linter.all false
set_option maxRecDepth 100000
/-! A shear leads a house; so all numbers stay. -/
namespace PL
open TW LA
open L2 hiding V
/-- one plus m at (o, p) -/
def el {n : Nat} (o p : Fin n) (m : Rat) : Mt n := fun i j => oneM i j + if i = o ∧ j = p then m else 0
theorem sumF_pick {n : Nat} (p : Fin n) (f : Fin n → Rat) : sumF (fun k => if k = p then f k else 0) = f p := sum_pick (finRange_nodup n) (List.mem_finRange p) f
theorem sumF_add {n : Nat} (f g : Fin n → Rat) : sumF (fun k => f k + g k) = sumF f + sumF g := sumL_add _ f g
theorem sumF_congr {n : Nat} {f g : Fin n → Rat} (h : ∀ k, f k = g k) : sumF f = sumF g := sumL_congr fun k _ => h k
theorem el_mul {n : Nat} (o p : Fin n) (m : Rat) (A : Mt n) : mulM (el o p m) A = fun i j => A i j + if i = o then m * A p j else 0 := by
  funext i j
  show sumF (fun k => (oneM i k + if i = o ∧ k = p then m else 0) * A k j) = _
  rw [sumF_congr (g := fun k => (if k = i then A k j else 0) + if k = p then (if i = o then m * A k j else 0) else 0) fun k => ?_, sumF_add, sumF_pick, sumF_pick p fun k => if i = o then m * A k j else 0]
  unfold oneM
  by_cases h1 : k = i
  · rw [if_pos h1, if_pos h1.symm]
    by_cases h2 : i = o <;> by_cases h3 : k = p <;> simp [h2, h3] <;> grind
  · rw [if_neg h1, if_neg fun e => h1 e.symm]
    by_cases h2 : i = o <;> by_cases h3 : k = p <;> simp [h2, h3] <;> grind
theorem mul_el {n : Nat} (o p : Fin n) (m : Rat) (A : Mt n) : mulM A (el o p m) = fun i j => A i j + if j = p then m * A i o else 0 := by
  funext i j
  show sumF (fun k => A i k * (oneM k j + if k = o ∧ j = p then m else 0)) = _
  rw [sumF_congr (g := fun k => (if k = j then A i k else 0) + if k = o then (if j = p then m * A i k else 0) else 0) fun k => ?_, sumF_add, sumF_pick, sumF_pick o fun k => if j = p then m * A i k else 0]
  unfold oneM
  by_cases h1 : k = j
  · rw [if_pos h1, if_pos h1]
    by_cases h2 : k = o <;> by_cases h3 : j = p <;> simp [h2, h3] <;> grind
  · rw [if_neg h1, if_neg h1]
    by_cases h2 : k = o <;> by_cases h3 : j = p <;> simp [h2, h3] <;> grind
theorem el_back {n : Nat} {o p : Fin n} (h : p ≠ o) (m : Rat) : mulM (el o p m) (el o p (-m)) = oneM := by
  rw [el_mul]
  funext i j
  unfold el oneM
  by_cases h1 : i = o
  · subst h1
    rw [if_pos rfl]
    by_cases h2 : j = p
    · subst h2
      simp [h, Ne.symm h]
      grind
    · by_cases h3 : p = j
      · exact absurd h3.symm h2
      · simp [h2, h3, h]; grind
  · simp [h1]; grind
/-! tables of whole numbers -/
def mi (n : Nat) (t : ITab) : Mt n := fun i j => ((an (al t i.val) j.val : Int) : Rat)
def ratI (t : ITab) : Tab := ratT (t.map fun r => r.map NumV.i)
theorem rat_eq (t : ITab) : ratI t = t.map fun r => r.map fun x => ((x : Int) : Rat) := by
  unfold ratI ratT
  rw [List.map_map]
  refine List.map_congr_left fun r _ => ?_
  show (r.map NumV.i).map m_ratio_of = _
  rw [List.map_map]
  exact List.map_congr_left fun x _ => rfl
theorem rat_shp {t : ITab} {n : Nat} (h : Shp t n n) : Shp (ratI t) n n ∧ mt n (ratI t) = mi n t := by
  rw [rat_eq]
  refine ⟨⟨by rw [List.length_map, h.1], fun r hr => ?_⟩, ?_⟩
  · obtain ⟨q, hq, rfl⟩ := List.mem_map.mp hr
    rw [List.length_map, h.2 q hq]
  · funext i j
    show aq (al _ i.val) j.val = ((an (al t i.val) j.val : Int) : Rat)
    have hi : i.val < t.length := by rw [h.1]; exact i.isLt
    have hl := h.2 _ (al_mem hi)
    have hj := j.isLt
    rw [al_map _ hi, aq_lt (by rw [List.length_map]; omega), List.getElem_map, an_lt (by omega)]
theorem hou_eq (ls : List ITab) : (houOf ls).ls = ls.map ratI ∧ (houOf ls).n = sizeOf0 ls := by
  unfold houOf m_House asI
  refine ⟨by rw [List.map_map]; rfl, ?_⟩
  cases ls with
  | nil => rfl
  | cons t l => show (t.map _).length = _; rw [List.length_map]; rfl
def SqI (n : Nat) (ls : List ITab) : Prop := 0 < n ∧ ls ≠ [] ∧ ∀ t ∈ ls, Shp t n n
theorem sqI_size {n : Nat} {ls : List ITab} (h : SqI n ls) : sizeOf0 ls = n := by
  cases ls with
  | nil => exact absurd rfl h.2.1
  | cons t l => exact (h.2.2 t (List.mem_cons_self ..)).1
theorem hou_sq {n : Nat} {ls : List ITab} (h : SqI n ls) : Sq n (houOf ls) := by
  obtain ⟨e1, e2⟩ := hou_eq ls
  refine ⟨h.1, by rw [e2, sqI_size h], fun t ht => ?_⟩
  rw [e1] at ht
  obtain ⟨q, hq, rfl⟩ := List.mem_map.mp ht
  exact (rat_shp (h.2.2 q hq)).1
theorem shear_shp {n : Nat} {t : ITab} (h : Shp t n n) {s : Shear} (hs : ShearOk n s) : Shp (m__law_changed t s.1 s.2.1 s.2.2) n n ∧ ∃ o p : Fin n, p ≠ o ∧ s.1 = (o.val : Int) ∧ s.2.1 = (p.val : Int) ∧ mi n (m__law_changed t s.1 s.2.1 s.2.2) = conj (el o p (s.2.2 : Rat)) (el o p (-(s.2.2 : Rat))) (mi n t) := by
  obtain ⟨a, b, m⟩ := s
  obtain ⟨h1, h2, h3, h4, h5, h6⟩ := hs
  simp only at h1 h2 h3 h4 h5 h6 ⊢
  obtain ⟨o, rfl⟩ := Int.eq_ofNat_of_zero_le h1
  obtain ⟨p, rfl⟩ := Int.eq_ofNat_of_zero_le h3
  have ho : o < n := by omega
  have hp : p < n := by omega
  have hpo : p ≠ o := by omega
  have lo := h.2 _ (al_mem (t := t) (i := o) (by rw [h.1]; exact ho))
  have lp := h.2 _ (al_mem (t := t) (i := p) (by rw [h.1]; exact hp))
  have r1 : Shp (rowAdd t (o : Int) (p : Int) m) n n ∧ ∀ i j, i < n → j < n → an (al (rowAdd t (o : Int) (p : Int) m) i) j = an (al t i) j + if i = o then m * an (al t p) j else 0 := by
    unfold rowAdd
    rw [Int.toNat_natCast, atL_nat, atL_nat]
    refine ⟨⟨by rw [List.length_set, h.1], fun r hr => ?_⟩, fun i j hi hj => ?_⟩
    · rcases List.mem_or_eq_of_mem_set hr with hr | rfl
      · exact h.2 r hr
      · rw [List.length_map, List.length_zip, lo, lp, Nat.min_self]
    · unfold al
      rw [List.getElem?_set]
      by_cases e : o = i
      · subst e
        rw [if_pos rfl, if_pos (by rw [h.1]; exact ho), if_pos rfl]
        show an (((al t o).zip (al t p)).map fun q => q.1 + m * q.2) j = _
        rw [an_zip _ (by simp) (by rw [lo, lp])]
        rfl
      · rw [if_neg e, if_neg fun e2 => e e2.symm]
        omega
  have lr : ∀ i, i < n → (al (rowAdd t (o : Int) (p : Int) m) i).length = n := fun i hi => r1.1.2 _ (al_mem (by rw [r1.1.1]; exact hi))
  have ent2 : ∀ i j, i < n → j < n → an (al (m__law_changed t (o : Int) (p : Int) m) i) j = an (al (rowAdd t (o : Int) (p : Int) m) i) j - if j = p then m * an (al (rowAdd t (o : Int) (p : Int) m) i) o else 0 := fun i j hi hj => by
    unfold m__law_changed
    rw [al_map _ (by rw [r1.1.1]; exact hi)]
    unfold colSub
    rw [lr i hi]
    unfold an
    rw [List.getElem?_map, upto_get hj]
    show (if (j : Int) = (p : Int) then at0 _ (j : Int) - m * at0 _ (o : Int) else at0 _ (j : Int)) = _
    by_cases e : j = p
    · rw [if_pos (by omega), if_pos e]; rfl
    · rw [if_neg (by omega), if_neg e]; show an _ j = an _ j - 0; omega
  refine ⟨⟨by unfold m__law_changed; rw [List.length_map, r1.1.1], fun r hr => ?_⟩, ⟨o, ho⟩, ⟨p, hp⟩, fun e => hpo (congrArg Fin.val e), rfl, rfl, ?_⟩
  · unfold m__law_changed at hr
    obtain ⟨q, hq, rfl⟩ := List.mem_map.mp hr
    unfold colSub
    rw [List.length_map, upto_lenN, r1.1.2 q hq]
  · unfold conj
    rw [el_mul, mul_el]
    funext i j
    have fo : ∀ i : Fin n, (i = ⟨o, ho⟩) ↔ i.val = o := fun i => ⟨fun e => by rw [e], fun e => Fin.ext e⟩
    have fp : ∀ i : Fin n, (i = ⟨p, hp⟩) ↔ i.val = p := fun i => ⟨fun e => by rw [e], fun e => Fin.ext e⟩
    unfold mi
    rw [ent2 i.val j.val i.isLt j.isLt, r1.2 i.val j.val i.isLt j.isLt, r1.2 i.val o i.isLt ho]
    simp only [fo, fp]
    by_cases e1 : i.val = o <;> by_cases e2 : j.val = p <;> simp [e1, e2, Rat.intCast_add, Rat.intCast_sub, Rat.intCast_mul] <;> grind
theorem el_back2 {n : Nat} {o p : Fin n} (h : p ≠ o) (m : Rat) : mulM (el o p (-m)) (el o p m) = oneM := by
  have := el_back h (-m)
  rw [show - -m = m by grind] at this
  exact this
theorem shear_led {n : Nat} {ls : List ITab} (h : SqI n ls) {s : Shear} (hs : ShearOk n s) : SqI n (shear ls s) ∧ ∃ S T : Mt n, Led n S T (houOf ls) (houOf (shear ls s)) := by
  have q : SqI n (shear ls s) := by
    refine ⟨h.1, ?_, fun t ht => ?_⟩
    · unfold shear
      intro e
      exact h.2.1 (List.map_eq_nil_iff.mp e)
    · unfold shear at ht
      obtain ⟨u, hu, rfl⟩ := List.mem_map.mp ht
      exact (shear_shp (h.2.2 u hu) hs).1
  refine ⟨q, ?_⟩
  have ⟨o, p, po, e1, e2⟩ : ∃ o p : Fin n, p ≠ o ∧ s.1 = (o.val : Int) ∧ s.2.1 = (p.val : Int) := by
    obtain ⟨h1, h2, h3, h4, h5, _⟩ := hs
    exact ⟨⟨s.1.toNat, by omega⟩, ⟨s.2.1.toNat, by omega⟩, fun e => by have := congrArg Fin.val e; simp only at this; omega, by simp only; omega, by simp only; omega⟩
  refine ⟨el o p (s.2.2 : Rat), el o p (-(s.2.2 : Rat)), hou_sq h, hou_sq q, el_back po _, el_back2 po _, ?_⟩
  rw [(hou_eq ls).1, (hou_eq (shear ls s)).1]
  unfold shear
  rw [List.map_map]
  have key : ∀ l : List ITab, (∀ t ∈ l, Shp t n n) → AllR (fun t t' => mt n t' = conj (el o p (s.2.2 : Rat)) (el o p (-(s.2.2 : Rat))) (mt n t)) (l.map ratI) (l.map (ratI ∘ fun t => m__law_changed t s.1 s.2.1 s.2.2)) := fun l => by
    induction l with
    | nil => exact fun _ => .nil
    | cons t l ih =>
      intro hl
      refine .cons ?_ (ih fun u hu => hl u (List.mem_cons_of_mem _ hu))
      have ht := hl t (List.mem_cons_self ..)
      obtain ⟨k1, o', p', _, k2, k3, k4⟩ := shear_shp ht hs
      have eo : o' = o := Fin.ext (by omega)
      have ep : p' = p := Fin.ext (by omega)
      subst eo
      subst ep
      show mt n (ratI (m__law_changed t s.1 s.2.1 s.2.2)) = _
      rw [(rat_shp k1).2, (rat_shp ht).2, k4]
  exact key ls h.2.2
/-- all that is counted -/
structure Same4 (h h' : Hou) : Prop where
  dm : m_dimension h' = m_dimension h
  ev : m_every_table h' = m_every_table h
  pt : m_parts h' = m_parts h
  cm : (m_commuting h').length = (m_commuting h).length
  md : (m_middle h').length = (m_middle h).length
theorem led_same {n : Nat} {S T : Mt n} {h h' : Hou} (L : Led n S T h h') : Same4 h h' := ⟨(dim_R L).1, (dim_R L).2, parts_R L, com_R L, mid_R L⟩
theorem shears_same {n : Nat} (ss : List Shear) : ∀ {ls : List ITab}, SqI n ls → (∀ s ∈ ss, ShearOk n s) → SqI n (ss.foldl shear ls) ∧ Same4 (houOf ls) (houOf (ss.foldl shear ls)) := by
  induction ss with
  | nil => exact fun h _ => ⟨h, ⟨rfl, rfl, rfl, rfl, rfl⟩⟩
  | cons s ss ih =>
    intro ls h hs
    obtain ⟨h1, S, T, L⟩ := shear_led h (hs s (List.mem_cons_self ..))
    obtain ⟨h2, k⟩ := ih h1 fun u hu => hs u (List.mem_cons_of_mem _ hu)
    have m := led_same L
    exact ⟨h2, ⟨k.dm.trans m.dm, k.ev.trans m.ev, k.pt.trans m.pt, k.cm.trans m.cm, k.md.trans m.md⟩⟩
end PL
set_option Elab.async false
set_option linter.all false
set_option maxRecDepth 100000
/-! Sizes: rows of whole numbers. -/
namespace PL
open TW LA
open L2 hiding V
def RB (b : Nat) (r : List Int) : Prop := ∀ i, (an r i).natAbs ≤ 2 ^ b
theorem sm_of {x : Int} {b : Nat} (h : x.natAbs ≤ 2 ^ b) (hb : b < 60000000) : Sm x := Nat.lt_of_le_of_lt h (Nat.pow_lt_pow_right (by decide) hb)
theorem pow_mono {b c : Nat} (h : b ≤ c) : 2 ^ b ≤ 2 ^ c := Nat.pow_le_pow_right (by decide) h
theorem RB.mono {b c : Nat} {r : List Int} (h : RB b r) (hc : b ≤ c) : RB c r := fun i => Nat.le_trans (h i) (pow_mono hc)
theorem RB.sm {b : Nat} {r : List Int} (h : RB b r) (hb : b < 60000000) : ∀ x ∈ r, Sm x := fun x hx => by
  obtain ⟨i, hi, e⟩ := mem_an hx
  rw [← e]
  exact sm_of (h i) hb
theorem natAbs_div {x y g : Int} (hg : 0 < g) (h : x = g * y) : y.natAbs ≤ x.natAbs := by
  rw [h, Int.natAbs_mul]
  exact Nat.le_mul_of_pos_left _ (by omega)
theorem bare_le (r : List Int) (i : Nat) : (an (m_bare_row r) i).natAbs ≤ (an r i).natAbs := by
  obtain ⟨_, g, hg, k⟩ := bare_spec r
  exact natAbs_div hg (k i)
theorem bare_RB {b : Nat} {r : List Int} (h : RB b r) : RB b (m_bare_row r) := fun i => Nat.le_trans (bare_le r i) (h i)
theorem headed_RB {b p : Nat} {r : List Int} (h : RB b r) : RB b (m_headed_row r (p : Int)) := by
  unfold m_headed_row
  split
  · exact bare_RB h
  · intro i
    rw [an_map (fun n => 0 - n) rfl]
    have := bare_RB h i
    omega
theorem cleared_eq {row head : List Int} {p : Nat} (h : an row p = 0) : m_cleared row head (p : Int) = row := by
  unfold m_cleared
  rw [at0_nat, if_pos h]
theorem cleared_RB {row head : List Int} {p b d : Nat} (hl : row.length = head.length) (hr : RB b row) (hh : RB d head) : RB (b + d + 1) (m_cleared row head (p : Int)) := by
  by_cases h : an row p = 0
  · rw [cleared_eq h]
    exact hr.mono (by omega)
  · unfold m_cleared
    rw [at0_nat, at0_nat, if_neg h]
    refine bare_RB fun i => ?_
    rw [an_zip _ (by simp) hl]
    show (an head p * an row i - an row p * an head i).natAbs ≤ _
    have e1 : (an head p * an row i).natAbs ≤ 2 ^ (b + d) := by
      rw [Int.natAbs_mul, Nat.add_comm, Nat.pow_add]
      exact Nat.mul_le_mul (hh p) (hr i)
    have e2 : (an row p * an head i).natAbs ≤ 2 ^ (b + d) := by
      rw [Int.natAbs_mul, Nat.pow_add]
      exact Nat.mul_le_mul (hr p) (hh i)
    have e3 : 2 ^ (b + d + 1) = 2 ^ (b + d) + 2 ^ (b + d) := by rw [Nat.pow_succ]; omega
    rw [e3]
    omega
theorem inR_nat {α : Type} {r : List α} {p : Nat} (h : p < r.length) : inR r (p : Int) := ⟨Int.natCast_nonneg _, by rw [Int.toNat_natCast]; exact h⟩
theorem cleared_A {row head : List Int} {p b d W : Nat} (h1 : row.length = W) (h2 : head.length = W) (hp : p < W) (hr : RB b row) (hh : RB d head) (hb : b < 60000000) (hd : d < 60000000) : A_cleared row head (p : Int) :=
  ⟨inR_nat (by omega), fun _ => ⟨inR_nat (by omega), hr.sm hb, hh.sm hd⟩⟩
theorem cleared_A0 {row head : List Int} {p W : Nat} (h1 : row.length = W) (hp : p < W) (hz : an row p = 0) : A_cleared row head (p : Int) :=
  ⟨inR_nat (by omega), fun h => absurd hz h⟩
/-! steps -/
def eb (b j : Nat) : Nat := (b + 1) * 2 ^ j - 1
theorem eb_pos (b j : Nat) : eb b j + 1 = (b + 1) * 2 ^ j := by
  unfold eb
  have : 0 < (b + 1) * 2 ^ j := Nat.mul_pos (by omega) (Nat.pow_pos (by decide))
  omega
theorem eb_succ (b j : Nat) : eb b (j + 1) = eb b j + eb b j + 1 := by
  have h1 := eb_pos b j
  have h2 := eb_pos b (j + 1)
  rw [Nat.pow_succ, ← Nat.mul_assoc] at h2
  omega
theorem eb_zero (b : Nat) : eb b 0 = b := by
  have := eb_pos b 0
  omega
theorem eb_mono {b j k : Nat} (h : j ≤ k) : eb b j ≤ eb b k := by
  have h1 := eb_pos b j
  have h2 := eb_pos b k
  have := Nat.mul_le_mul_left (b + 1) (pow_mono h)
  omega
theorem step_cases {W : Nat} {rows : List (List Int)} {k : Nat} {s : Two} (S : Stp W rows k s) : (stepI s (k : Int) = s ∧ ¬ 0 ≤ m_first_at s.1 (k : Int)) ∨
    ∃ A x B h, s.1 = A ++ x :: B ∧ 0 ≤ m_first_at s.1 (k : Int) ∧ othersI s.1 (m_first_at s.1 (k : Int)) = A ++ B ∧ h = m_headed_row x (k : Int) ∧ headI s (k : Int) = h ∧ h.length = W ∧ 0 < an h k ∧ stepI s (k : Int) = ((A ++ B).map (m_cleared · h (k : Int)), s.2.map (m_cleared · h (k : Int)) ++ [h]) := by
  by_cases h : 0 ≤ m_first_at s.1 (k : Int)
  · right
    obtain ⟨A, x, B, e1, e2, nz, zA⟩ := first_some h
    have xw := (S.lw x (by rw [e1]; simp)).1
    obtain ⟨w1, w2, c, hc, kc⟩ := headed_spec nz
    have hI : headI s (k : Int) = m_headed_row x (k : Int) := by
      unfold headI
      rw [e2, e1, atL_of]
    refine ⟨A, x, B, _, e1, h, ?_, rfl, hI, by omega, w2, ?_⟩
    · rw [e2, e1, others_of]
    · unfold stepI
      rw [if_pos h, hI, e2]
      unfold stepAt
      rw [e1, others_of]
  · left
    exact ⟨by unfold stepI; rw [if_neg h], h⟩
theorem run_bits {W b : Nat} {rows : List (List Int)} (hw : ∀ r ∈ rows, r.length = W) (hb : ∀ r ∈ rows, RB b r) (k : Nat) : ∀ r ∈ (runI rows k).1 ++ (runI rows k).2, RB (eb b (runI rows k).2.length) r := by
  induction k with
  | zero =>
    intro r hr
    have e : runI rows 0 = (rows, []) := rfl
    rw [e] at hr ⊢
    rw [List.append_nil] at hr
    show RB (eb b 0) r
    rw [eb_zero]
    exact hb r hr
  | succ k ih =>
    have S := stp_run hw k
    rw [runI_succ]
    rcases step_cases S with ⟨e, _⟩ | ⟨A, x, B, h, e1, _, _, eh, _, hl, hp, e2⟩
    · rw [e]; exact ih
    · rw [e2]
      have hx : RB (eb b (runI rows k).2.length) h := by rw [eh]; exact headed_RB (ih x (List.mem_append_left _ (by rw [e1]; simp)))
      have el : ((runI rows k).2.map (m_cleared · h (k : Int)) ++ [h]).length = (runI rows k).2.length + 1 := by simp
      intro r hr
      show RB (eb b ((runI rows k).2.map (m_cleared · h (k : Int)) ++ [h]).length) r
      rw [el, eb_succ]
      have one : ∀ q, q ∈ (runI rows k).1 ++ (runI rows k).2 → q.length = W → RB (eb b (runI rows k).2.length + eb b (runI rows k).2.length + 1) (m_cleared q h (k : Int)) := fun q hq ql => cleared_RB (by rw [ql, hl]) (ih q hq) hx
      rcases List.mem_append.mp hr with hr | hr
      · obtain ⟨q, hq, rfl⟩ := List.mem_map.mp hr
        have hq2 : q ∈ (runI rows k).1 := by rw [e1]; rcases List.mem_append.mp hq with h | h <;> simp [h]
        exact one q (List.mem_append_left _ hq2) (S.lw q hq2).1
      · rcases List.mem_append.mp hr with hr | hr
        · obtain ⟨q, hq, rfl⟩ := List.mem_map.mp hr
          exact one q (List.mem_append_right _ hq) (S.rd.wd q hq).1
        · rw [List.mem_singleton] at hr
          rw [hr]
          exact hx.mono (by omega)
theorem run_len_succ {W : Nat} {rows : List (List Int)} (hw : ∀ r ∈ rows, r.length = W) (k : Nat) : (runI rows k).2.length ≤ (runI rows (k + 1)).2.length := by
  rw [runI_succ]
  rcases step_cases (stp_run hw k) with ⟨e, _⟩ | ⟨A, x, B, h, e1, _, _, eh, _, hl, hp, e2⟩
  · rw [e]; exact Nat.le_refl _
  · rw [e2]; simp
theorem run_len_mono {W : Nat} {rows : List (List Int)} (hw : ∀ r ∈ rows, r.length = W) {k m : Nat} (h : k ≤ m) : (runI rows k).2.length ≤ (runI rows m).2.length := by
  induction m with
  | zero => rw [Nat.le_zero.mp h]; exact Nat.le_refl _
  | succ m ih =>
    by_cases e : k = m + 1
    · rw [e]; exact Nat.le_refl _
    · exact Nat.le_trans (ih (by omega)) (run_len_succ hw m)
theorem int_bits {W b : Nat} {rows : List (List Int)} (hw : ∀ r ∈ rows, r.length = W) (hb : ∀ r ∈ rows, RB b r) : ∀ r ∈ m_int_steps rows, RB (eb b (m_int_steps rows).length) r := fun r hr =>
  run_bits hw hb _ r (List.mem_append_right _ hr)
theorem wideI_lt {W : Nat} {rows : List (List Int)} (hw : ∀ r ∈ rows, r.length = W) {k : Nat} (h : k < wideI rows) : wideI rows = W := by
  rcases wideI_eq hw with e | e
  · rw [e] at h
    cases h
  · exact e
theorem int_A {W b : Nat} {rows : List (List Int)} (hw : ∀ r ∈ rows, r.length = W) (hb : ∀ r ∈ rows, RB b r) (hf : (b + 1) * 2 ^ (m_int_steps rows).length ≤ 60000000) : A_int_steps rows := by
  intro k hk
  have eW := wideI_lt hw hk
  have S := stp_run hw k
  refine ⟨fun r hr => inR_nat (by rw [(S.lw r hr).1, ← eW]; exact hk), fun h0 => ?_⟩
  rcases step_cases S with ⟨_, e⟩ | ⟨A, x, B, h, e1, _, e3, eh, e4, hl, hp, e2⟩
  · exact absurd h0 e
  · have bits := run_bits hw hb k
    have l1 : (runI rows k).2.length + 1 ≤ (m_int_steps rows).length := by
      have := run_len_mono hw (show k + 1 ≤ wideI rows from hk)
      rw [runI_succ, e2] at this
      simp at this
      exact this
    have sm : eb b (runI rows k).2.length < 60000000 := by
      have h1 := eb_pos b (runI rows k).2.length
      have h2 := Nat.mul_le_mul_left (b + 1) (pow_mono (show (runI rows k).2.length ≤ (m_int_steps rows).length by omega))
      omega
    have hx : RB (eb b (runI rows k).2.length) h := by rw [eh]; exact headed_RB (bits x (List.mem_append_left _ (by rw [e1]; simp)))
    rw [e3, e4]
    intro r hr
    rcases List.mem_append.mp hr with hr | hr
    · have hq2 : r ∈ (runI rows k).1 := by rw [e1]; rcases List.mem_append.mp hr with h | h <;> simp [h]
      exact cleared_A (S.lw r hq2).1 hl (by omega) (bits r (List.mem_append_left _ hq2)) hx sm sm
    · exact cleared_A (S.rd.wd r hr).1 hl (by omega) (bits r (List.mem_append_right _ hr)) hx sm sm
/-! steps of what stands in steps: nothing is multiplied -/
structure RInv (W : Nat) (S : List (List Int)) (k : Nat) (s : Two) (A B : List (List Int)) : Prop where
  eq : S = A ++ B
  le : s.1 = B
  fo : s.2 = A.map fun r => m_headed_row r (hd r : Int)
  lo : ∀ r ∈ A, hd r < k
  hi : ∀ r ∈ B, k ≤ hd r
theorem headed_zero {r : List Int} {p q : Nat} (h : an r p = 0) : an (m_headed_row r (q : Int)) p = 0 := by
  have e : an (m_bare_row r) p = 0 := by
    have := bare_le r p
    rw [h] at this
    simpa using this
  unfold m_headed_row
  split
  · exact e
  · rw [an_map (fun n => 0 - n) rfl, e]; rfl
theorem map_cl {L : List (List Int)} {h : List Int} {k : Nat} (z : ∀ r ∈ L, an r k = 0) : L.map (m_cleared · h (k : Int)) = L := by
  have : L.map (m_cleared · h (k : Int)) = L.map id := List.map_congr_left fun r hr => cleared_eq (z r hr)
  rw [this, List.map_id]
theorem red_step {W : Nat} {S : List (List Int)} (R : Red W S) {k : Nat} {s : Two} {A B : List (List Int)} (I : RInv W S k s A B) : (∃ A' B', RInv W S (k + 1) (stepI s (k : Int)) A' B') ∧ (k < W → A_step s (k : Int)) := by
  have memS : ∀ r ∈ B, r ∈ S := fun r hr => by rw [I.eq]; exact List.mem_append_right _ hr
  have memA : ∀ r ∈ A, r ∈ S := fun r hr => by rw [I.eq]; exact List.mem_append_left _ hr
  have pw := R.pw
  rw [I.eq] at pw
  obtain ⟨pA, pB, pAB⟩ := List.pairwise_append.mp pw
  by_cases hx : ∃ x B', B = x :: B' ∧ hd x = k
  · obtain ⟨x, B', eB, ex⟩ := hx
    subst eB
    obtain ⟨px, pB'⟩ := List.pairwise_cons.mp pB
    have nz : an x k ≠ 0 := by rw [← ex]; have := (R.wd x (memS x (List.mem_cons_self ..))).2; omega
    have f0 : m_first_at s.1 (k : Int) = 0 := by
      rw [I.le]
      unfold m_first_at firstN
      rw [List.findIdx?_cons, if_pos (by rw [at0_nat]; exact decide_eq_true nz)]
      rfl
    have eH : headI s (k : Int) = m_headed_row x (k : Int) := by
      unfold headI
      rw [f0, I.le]
      rfl
    have eO : othersI s.1 (m_first_at s.1 (k : Int)) = B' := by
      rw [f0, I.le]
      rfl
    have z1 : ∀ r ∈ B', an r k = 0 := fun r hr => hd_before (by have := (px r hr).1; omega)
    have z2 : ∀ r ∈ s.2, an r k = 0 := fun r hr => by
      rw [I.fo] at hr
      obtain ⟨a, ha, rfl⟩ := List.mem_map.mp hr
      have := (pAB a ha x (List.mem_cons_self ..)).2
      rw [ex] at this
      exact headed_zero this
    constructor
    · refine ⟨A ++ [x], B', ?_, ?_, ?_, fun r hr => ?_, fun r hr => ?_⟩
      · rw [I.eq, List.append_assoc]; rfl
      · unfold stepI
        rw [if_pos (by omega), eH]
        unfold stepAt
        rw [eO, map_cl z1]
      · unfold stepI
        rw [if_pos (by omega), eH]
        unfold stepAt
        show s.2.map (m_cleared · (m_headed_row x (k : Int)) (k : Int)) ++ [m_headed_row x (k : Int)] = _
        rw [map_cl z2, I.fo, List.map_append, List.map_cons, List.map_nil, ex]
      · rcases List.mem_append.mp hr with h | h
        · exact Nat.lt_succ_of_lt (I.lo r h)
        · rw [List.mem_singleton] at h
          rw [h, ex]
          omega
      · have := (px r hr).1
        omega
    · intro hk
      refine ⟨fun r hr => inR_nat ?_, fun _ r hr => ?_⟩
      · rw [I.le] at hr
        rw [(R.wd r (memS r hr)).1]
        exact hk
      · rw [eO] at hr
        rcases List.mem_append.mp hr with h | h
        · exact cleared_A0 (R.wd r (memS r (List.mem_cons_of_mem _ h))).1 hk (z1 r h)
        · refine cleared_A0 ?_ hk (z2 r h)
          rw [I.fo] at h
          obtain ⟨a, ha, rfl⟩ := List.mem_map.mp h
          have wa := R.wd a (memA a ha)
          rw [(headed_spec (row := a) (p := hd a) (by omega)).1, wa.1]
  · have hi : ∀ r ∈ B, k < hd r := fun r hr => by
      cases B with
      | nil => cases hr
      | cons x B' =>
        have h1 := I.hi x (List.mem_cons_self ..)
        have h2 : hd x ≠ k := fun e => hx ⟨x, B', rfl, e⟩
        rcases List.mem_cons.mp hr with rfl | h
        · omega
        · have := ((List.pairwise_cons.mp pB).1 r h).1
          omega
    have none_ : ¬ 0 ≤ m_first_at s.1 (k : Int) := by
      intro h
      obtain ⟨A2, x, B2, e1, _, nz, _⟩ := first_some h
      rw [I.le] at e1
      exact nz (hd_before (hi x (by rw [e1]; simp)))
    constructor
    · refine ⟨A, B, I.eq, ?_, ?_, fun r hr => Nat.lt_succ_of_lt (I.lo r hr), hi⟩
      · unfold stepI; rw [if_neg none_]; exact I.le
      · unfold stepI; rw [if_neg none_]; exact I.fo
    · intro hk
      refine ⟨fun r hr => inR_nat ?_, fun h => absurd h none_⟩
      rw [I.le] at hr
      rw [(R.wd r (memS r hr)).1]
      exact hk
theorem red_run {W : Nat} {S : List (List Int)} (R : Red W S) (k : Nat) : ∃ A B, RInv W S k (runI S k) A B := by
  induction k with
  | zero => exact ⟨[], S, rfl, rfl, rfl, fun r hr => (List.not_mem_nil hr).elim, fun r hr => Nat.zero_le _⟩
  | succ k ih =>
    obtain ⟨A, B, I⟩ := ih
    rw [runI_succ]
    exact (red_step R I).1
theorem red_A {W : Nat} {S : List (List Int)} (R : Red W S) : A_int_steps S := by
  intro k hk
  have eW := wideI_lt (W := W) (fun r hr => (R.wd r hr).1) hk
  obtain ⟨A, B, I⟩ := red_run R k
  exact (red_step R I).2 (by omega)
theorem red_eq {W : Nat} {S : List (List Int)} (R : Red W S) : m_int_steps S = S.map fun r => m_headed_row r (hd r : Int) := by
  obtain ⟨A, B, I⟩ := red_run R (wideI S)
  have hw : ∀ r ∈ S, r.length = W := fun r hr => (R.wd r hr).1
  have eB : B = [] := by
    cases B with
    | nil => rfl
    | cons x B =>
      have hm : x ∈ S := by rw [I.eq]; simp
      have h1 := I.hi x (List.mem_cons_self ..)
      have h2 := red_hd_lt R hm
      rcases wideI_eq hw with e | e
      · rw [e] at hm
        cases hm
      · omega
  unfold m_int_steps
  rw [I.fo, I.eq, eB, List.append_nil]
theorem red_bits {W b : Nat} {S : List (List Int)} (R : Red W S) (hb : ∀ r ∈ S, RB b r) : (∀ r ∈ m_int_steps S, RB b r) ∧ (m_int_steps S).length = S.length := by
  rw [red_eq R]
  refine ⟨fun r hr => ?_, List.length_map ..⟩
  obtain ⟨q, hq, rfl⟩ := List.mem_map.mp hr
  exact headed_RB (hb q hq)
end PL
set_option Elab.async false
set_option linter.all false
set_option maxRecDepth 100000
/-! Sizes: Ratios over one bottom, steps, the kernel. -/
namespace PL
open TW LA
open L2 hiding V
/-- over the bottom h a number to 2^b -/
def CD (h : Int) (b : Nat) (q : Rat) : Prop := ∃ x : Int, q * (h : Rat) = (x : Rat) ∧ x.natAbs ≤ 2 ^ b
theorem CD.mono {h : Int} {b c : Nat} {q : Rat} (k : CD h b q) (hc : b ≤ c) : CD h c q := let ⟨x, e, l⟩ := k; ⟨x, e, Nat.le_trans l (pow_mono hc)⟩
theorem cross {h x : Int} {q : Rat} (e : q * (h : Rat) = (x : Rat)) : q.num * h = x * (q.den : Int) := by
  have h1 : ((q.num * h : Int) : Rat) = ((x * (q.den : Int) : Int) : Rat) := by
    rw [Rat.intCast_mul, Rat.intCast_mul, den_cast]
    grind
  exact_mod_cast h1
theorem cd_parts {h : Int} {b : Nat} {q : Rat} (h0 : h ≠ 0) (k : CD h b q) : (q.den : Int) ∣ h ∧ q.num.natAbs ≤ 2 ^ b ∧ q.den ≤ h.natAbs := by
  obtain ⟨x, e, l⟩ := k
  have c := congrArg Int.natAbs (cross e)
  rw [Int.natAbs_mul, Int.natAbs_mul, Int.natAbs_natCast] at c
  have d : q.den ∣ h.natAbs := Nat.Coprime.dvd_of_dvd_mul_left (m := q.num.natAbs) q.reduced.symm ⟨x.natAbs, by rw [c, Nat.mul_comm]⟩
  refine ⟨Int.ofNat_dvd_left.mpr d, ?_, Nat.le_of_dvd (by omega) d⟩
  obtain ⟨m, hm⟩ := d
  have m0 : 0 < m := Nat.pos_of_ne_zero fun z => by rw [z] at hm; omega
  have dp := q.den_pos
  rw [hm] at c
  have e2 : q.den * (q.num.natAbs * m) = q.den * x.natAbs := by
    rw [Nat.mul_comm q.den x.natAbs, ← c, ← Nat.mul_assoc, Nat.mul_comm q.den q.num.natAbs, Nat.mul_assoc]
  have e3 := Nat.eq_of_mul_eq_mul_left dp e2
  exact Nat.le_trans (Nat.le_mul_of_pos_right _ m0) (by omega)
theorem lcm_dvd_of {h : Int} (r : List Rat) : ∀ (c : Int), c ∣ h → (∀ q ∈ r, (q.den : Int) ∣ h) → r.foldl (fun b q => ((Nat.lcm b.natAbs q.den : Nat) : Int)) c ∣ h := by
  induction r with
  | nil => exact fun c hc _ => hc
  | cons q r ih =>
    intro c hc hq
    rw [List.foldl_cons]
    refine ih _ ?_ fun x hx => hq x (List.mem_cons_of_mem _ hx)
    refine Int.ofNat_dvd_left.mpr (Nat.lcm_dvd (Int.natAbs_dvd_natAbs.mpr hc) ?_)
    exact Int.ofNat_dvd_left.mp (hq q (List.mem_cons_self ..))
theorem wholes_A {h : Int} {b H : Nat} {r : List Rat} (h0 : h ≠ 0) (hh : h.natAbs ≤ 2 ^ H) (hH : H < 60000000) (hb : b < 60000000) (k : ∀ q ∈ r, CD h b q) : A_wholes r ∧ RB b (m_wholes r).2 := by
  have dv : ∀ q ∈ r, (q.den : Int) ∣ h := fun q hq => (cd_parts h0 (k q hq)).1
  have ld : lcmL r ∣ h := lcm_dvd_of r 1 (Int.one_dvd _) dv
  have lp := lcm_pos r
  have ll : ∀ x : Int, x ∣ h → Sm x := fun x hx => sm_of (b := H) (Nat.le_trans (Nat.le_of_dvd (by omega) (Int.natAbs_dvd_natAbs.mpr hx)) hh) hH
  refine ⟨⟨fun n => ll _ (lcm_dvd_of _ 1 (Int.one_dvd _) fun q hq => dv q (List.mem_of_mem_take hq)), fun q hq => ⟨⟨?_, ?_⟩, ?_⟩⟩, fun i => ?_⟩
  · exact sm_of (cd_parts h0 (k q hq)).2.1 hb
  · exact ll _ (dv q hq)
  · obtain ⟨m, hm⟩ := lcm_dvd hq
    have := q.den_pos
    rw [hm, Int.mul_fdiv_cancel_left _ (by omega)]
    exact ll _ (Int.dvd_trans ⟨(q.den : Int), by rw [hm, Int.mul_comm]⟩ ld)
  · obtain ⟨w1, w2⟩ := wholes_spec r
    by_cases hi : i < r.length
    · have e := w2 i
      obtain ⟨x, ex, lx⟩ := k _ (aq_mem hi)
      obtain ⟨m, hm⟩ := ld
      have m0 : m ≠ 0 := fun z => h0 (by rw [hm, z, Int.mul_zero])
      have e2 : an (m_wholes r).2 i * m = x := by
        have : ((an (m_wholes r).2 i * m : Int) : Rat) = (x : Rat) := by
          rw [Rat.intCast_mul, ← ex, hm, Rat.intCast_mul]
          unfold vI vQ at e
          rw [e]
          grind
        exact_mod_cast this
      have e3 := congrArg Int.natAbs e2
      rw [Int.natAbs_mul] at e3
      have m1 : 0 < m.natAbs := Int.natAbs_pos.mpr m0
      have e4 : (an (m_wholes r).2 i).natAbs ≤ (an (m_wholes r).2 i).natAbs * m.natAbs := Nat.le_mul_of_pos_right _ m1
      rw [e3] at e4
      exact Nat.le_trans e4 lx
    · rw [an_ge (by omega)]
      exact Nat.zero_le _
/-! told rows -/
theorem told_CD {E : Nat} {r : List Int} (h : 0 < an r (hd r)) (b : RB E r) : ∀ q ∈ toldRow r, CD (an r (hd r)) E q := fun q hq => by
  obtain ⟨i, hi, e⟩ := mem_aq hq
  refine ⟨an r i, ?_, b i⟩
  have k := (told_spec r).2 i
  unfold vQ vI at k
  have nz := cast_ne (a := an r (hd r)) (by omega)
  rw [← e, k]
  grind
theorem head_A {W : Nat} {R : List (List Int)} (rd : Red W R) {r : List Int} (hr : r ∈ R) : A_head_of r :=
  ⟨an r (hd r), an_mem (by rw [(rd.wd r hr).1]; exact red_hd_lt rd hr), by have := (rd.wd r hr).2; omega⟩
theorem told_A {W : Nat} {R : List (List Int)} (rd : Red W R) : A_told_rows R := fun r hr => head_A rd hr
theorem stI_len (rows : List (List Rat)) : (m_steps_of rows).length = (stI rows).length := by rw [steps_eq, List.length_map]
theorem steps_A {W B H : Nat} {rows : List (List Rat)} (hw : ∀ r ∈ rows, r.length = W) (hH : H < 60000000) (k : ∀ r ∈ rows, ∃ h : Int, h ≠ 0 ∧ h.natAbs ≤ 2 ^ H ∧ ∀ q ∈ r, CD h B q) (hc : (B + 1) * 2 ^ (stI rows).length ≤ 60000000) :
    A_steps_of rows ∧ ∀ r ∈ stI rows, RB (eb B (stI rows).length) r := by
  have hB : B < 60000000 := by
    have : 1 ≤ 2 ^ (stI rows).length := Nat.pow_pos (by decide)
    have := Nat.mul_le_mul_left (B + 1) this
    omega
  have bits : ∀ r ∈ m_ints_of rows, RB B r := fun r hr => by
    obtain ⟨q, hq, rfl⟩ := List.mem_map.mp hr
    obtain ⟨h, h0, hh, hk⟩ := k q hq
    exact (wholes_A h0 hh hH hB hk).2
  refine ⟨⟨fun r hr => ?_, int_A (ints_wd hw) bits hc, told_A (stI_spec hw).1⟩, int_bits (ints_wd hw) bits⟩
  obtain ⟨h, h0, hh, hk⟩ := k r hr
  exact (wholes_A h0 hh hH hB hk).1
/-- rows that are told steps: nothing is multiplied -/
theorem ints_red {W : Nat} {R : List (List Int)} (rd : Red W R) : Red W (m_ints_of (m_told_rows R)) := by
  have key : ∀ r ∈ R, ∃ c : Rat, 0 < c ∧ (m_wholes (toldRow r)).2.length = W ∧ ∀ i, vI (m_wholes (toldRow r)).2 i = c * vI r i := fun r hr => by
    obtain ⟨w1, w2⟩ := wholes_spec (toldRow r)
    obtain ⟨t1, t2⟩ := told_spec r
    have hp := (rd.wd r hr).2
    refine ⟨(lcmL (toldRow r) : Rat) * ((an r (hd r) : Int) : Rat)⁻¹, ?_, by rw [w1, t1, (rd.wd r hr).1], fun i => by rw [w2, t2]; grind⟩
    have a1 : (0 : Rat) < (lcmL (toldRow r) : Rat) := by exact_mod_cast lcm_pos (toldRow r)
    have a2 : (0 : Rat) < ((an r (hd r) : Int) : Rat) := by exact_mod_cast hp
    exact Rat.mul_pos a1 (Rat.inv_pos.mpr a2)
  have zero : ∀ r ∈ R, ∀ i, an r i = 0 → an (m_wholes (toldRow r)).2 i = 0 := fun r hr i h => by
    obtain ⟨c, _, _, e⟩ := key r hr
    have := e i
    unfold vI at this
    rw [h] at this
    have h2 : ((an (m_wholes (toldRow r)).2 i : Int) : Rat) = 0 := by rw [this]; simp
    exact_mod_cast h2
  have pos : ∀ r ∈ R, 0 < an (m_wholes (toldRow r)).2 (hd r) := fun r hr => by
    obtain ⟨c, c0, _, e⟩ := key r hr
    have := e (hd r)
    unfold vI at this
    have a2 : (0 : Rat) < ((an r (hd r) : Int) : Rat) := by exact_mod_cast (rd.wd r hr).2
    have h2 : (0 : Rat) < ((an (m_wholes (toldRow r)).2 (hd r) : Int) : Rat) := by rw [this]; exact Rat.mul_pos c0 a2
    exact_mod_cast h2
  have heads : ∀ r ∈ R, hd (m_wholes (toldRow r)).2 = hd r := fun r hr => hd_eq (by have := pos r hr; omega) fun m hm => zero r hr m (hd_before hm)
  refine ⟨fun s hs => ?_, ?_⟩
  · obtain ⟨q, hq, rfl⟩ := List.mem_map.mp hs
    obtain ⟨r, hr, rfl⟩ := List.mem_map.mp hq
    obtain ⟨c, _, l, _⟩ := key r hr
    exact ⟨l, by rw [heads r hr]; exact pos r hr⟩
  · unfold m_ints_of m_told_rows
    rw [List.map_map, List.pairwise_map]
    refine rd.pw.imp_of_mem ?_
    intro r s hr hs h
    show hd (m_wholes (toldRow r)).2 < hd (m_wholes (toldRow s)).2 ∧ _
    rw [heads r hr]
    show _ ∧ an (m_wholes (toldRow r)).2 (hd (m_wholes (toldRow s)).2) = 0
    rw [heads s hs]
    exact ⟨h.1, zero r hr _ h.2⟩
theorem told_wd {W : Nat} {R : List (List Int)} (rd : Red W R) : ∀ r ∈ m_told_rows R, r.length = W := fun r hr => by
  obtain ⟨q, hq, rfl⟩ := List.mem_map.mp hr
  rw [(told_spec q).1, (rd.wd q hq).1]
theorem resteps_A {W E : Nat} {R : List (List Int)} (rd : Red W R) (hb : ∀ r ∈ R, RB E r) (hE : E < 60000000) : A_steps_of (m_told_rows R) ∧ (∀ r ∈ stI (m_told_rows R), RB E r) ∧ (stI (m_told_rows R)).length = R.length := by
  have key : ∀ r ∈ R, A_wholes (toldRow r) ∧ RB E (m_wholes (toldRow r)).2 := fun r hr => by
    have hp := (rd.wd r hr).2
    exact wholes_A (h := an r (hd r)) (by omega) (hb r hr _) hE hE (told_CD hp (hb r hr))
  have rd2 := ints_red rd
  have bits : ∀ r ∈ m_ints_of (m_told_rows R), RB E r := fun r hr => by
    obtain ⟨q, hq, rfl⟩ := List.mem_map.mp hr
    obtain ⟨u, hu, rfl⟩ := List.mem_map.mp hq
    exact (key u hu).2
  obtain ⟨b1, b2⟩ := red_bits rd2 bits
  refine ⟨⟨fun r hr => ?_, red_A rd2, told_A (stI_spec (told_wd rd)).1⟩, b1, ?_⟩
  · obtain ⟨u, hu, rfl⟩ := List.mem_map.mp hr
    exact (key u hu).1
  · show (m_int_steps (m_ints_of (m_told_rows R))).length = _
    rw [b2]
    unfold m_ints_of m_told_rows
    rw [List.length_map, List.length_map]
/-! the kernel -/
def prodH (R : List (List Int)) : Int := match R with
  | [] => 1
  | r :: R => an r (hd r) * prodH R
theorem prodH_ok {E : Nat} {R : List (List Int)} (hp : ∀ r ∈ R, 0 < an r (hd r)) (hb : ∀ r ∈ R, RB E r) : prodH R ≠ 0 ∧ (prodH R).natAbs ≤ 2 ^ (E * R.length) ∧ ∀ r ∈ R, ∃ m : Int, prodH R = an r (hd r) * m ∧ m.natAbs ≤ 2 ^ (E * R.length) := by
  induction R with
  | nil => exact ⟨by decide, by simp [prodH], fun r hr => nomatch hr⟩
  | cons s R ih =>
    obtain ⟨i1, i2, i3⟩ := ih (fun r hr => hp r (List.mem_cons_of_mem _ hr)) fun r hr => hb r (List.mem_cons_of_mem _ hr)
    have hs := hp s (List.mem_cons_self ..)
    have bs := hb s (List.mem_cons_self ..) (hd s)
    have el : E * (s :: R).length = E + E * R.length := by rw [List.length_cons, Nat.mul_add]; omega
    rw [el, Nat.pow_add]
    refine ⟨Int.mul_ne_zero (by omega) i1, ?_, fun r hr => ?_⟩
    · show (an s (hd s) * prodH R).natAbs ≤ _
      rw [Int.natAbs_mul]
      exact Nat.mul_le_mul bs i2
    · rcases List.mem_cons.mp hr with rfl | hr
      · exact ⟨prodH R, rfl, Nat.le_trans i2 (Nat.le_mul_of_pos_left _ (Nat.pow_pos (by decide)))⟩
      · obtain ⟨m, e, l⟩ := i3 r hr
        refine ⟨an s (hd s) * m, ?_, ?_⟩
        · show an s (hd s) * prodH R = _
          rw [e, ← Int.mul_assoc, ← Int.mul_assoc, Int.mul_comm (an s (hd s))]
        · rw [Int.natAbs_mul]
          exact Nat.mul_le_mul bs l
theorem red_one {W : Nat} {R : List (List Int)} (rd : Red W R) {r s : List Int} (hr : r ∈ R) (hs : s ∈ R) (e : hd r = hd s) : r = s := by
  obtain ⟨i, hi, ei⟩ := List.mem_iff_getElem.mp hr
  obtain ⟨j, hj, ej⟩ := List.mem_iff_getElem.mp hs
  rcases Nat.lt_trichotomy i j with h3 | h3 | h3
  · have := (List.pairwise_iff_getElem.mp rd.pw i j hi hj h3).1
    rw [ei, ej] at this
    omega
  · subst h3
    rw [← ei, ej]
  · have := (List.pairwise_iff_getElem.mp rd.pw j i hj hi h3).1
    rw [ei, ej] at this
    omega
theorem kerRow_CD {W E : Nat} {R : List (List Int)} (rd : Red W R) (hb : ∀ r ∈ R, RB E r) {free : Nat} (hf : free < W) (nf : ∀ r ∈ R, hd r ≠ free) : ∀ q ∈ kerRow (R.map toldRow) W (free : Int), CD (prodH R) (E * (R.length + 1)) q := fun q hq => by
  obtain ⟨j, hj, e⟩ := mem_aq hq
  have k := (ker_row rd hf nf).2 j
  unfold vQ at k
  rw [e] at k
  obtain ⟨p0, p1, p2⟩ := prodH_ok (fun r hr => (rd.wd r hr).2) hb
  have eE : E * (R.length + 1) = E + E * R.length := by rw [Nat.mul_add]; omega
  by_cases hx : ∃ r ∈ R, hd r = j
  · obtain ⟨r, hr, er⟩ := hx
    have jf : j ≠ free := fun z => nf r hr (by rw [er, z])
    rw [if_neg jf, sumL_congr (g := fun s => if s = r then aq (toldRow s) free else 0) fun s hs => ?_, sum_pick (rd.pw.imp fun {a b} h => fun e => by rw [e] at h; omega) hr fun s => aq (toldRow s) free] at k
    · obtain ⟨m, em, lm⟩ := p2 r hr
      refine ⟨-(an r free * m), ?_, ?_⟩
      · have t := (told_spec r).2 free
        unfold vQ vI at t
        rw [k, t, em, Rat.intCast_mul, Rat.intCast_neg, Rat.intCast_mul]
        have nz := cast_ne (a := an r (hd r)) (by have := (rd.wd r hr).2; omega)
        grind
      · rw [Int.natAbs_neg, Int.natAbs_mul, eE, Nat.pow_add]
        exact Nat.mul_le_mul (hb r hr free) lm
    · by_cases h : s = r
      · rw [if_pos (by rw [h]; exact er.symm), if_pos h]
      · rw [if_neg fun z => h (red_one rd hs hr (by omega)), if_neg h]
  · rw [sumL_zero fun r hr => if_neg fun z => hx ⟨r, hr, z.symm⟩] at k
    by_cases jf : j = free
    · rw [if_pos jf] at k
      refine ⟨prodH R, by rw [k]; grind, Nat.le_trans p1 (pow_mono (by omega))⟩
    · rw [if_neg jf] at k
      exact ⟨0, by rw [k]; grind, Nat.zero_le _⟩
theorem nodup_len {l : List Nat} : ∀ {W : Nat}, l.Nodup → (∀ x ∈ l, x < W) → l.length ≤ W := by
  intro W
  induction W generalizing l with
  | zero =>
    intro _ h
    cases l with
    | nil => exact Nat.le_refl _
    | cons x l => exact absurd (h x (List.mem_cons_self ..)) (by omega)
  | succ W ih =>
    intro nd h
    have e : l.length ≤ (l.erase W).length + 1 := by
      rw [List.length_erase]
      split <;> omega
    have := ih (l := l.erase W) (nd.erase W) fun x hx => by
      have h1 := h x (List.mem_of_mem_erase hx)
      have h2 : x ≠ W := fun z => by
        rw [z] at hx
        exact (List.Nodup.not_mem_erase nd) hx
      omega
    omega
theorem free_len {W : Nat} {R : List (List Int)} (rd : Red W R) : (freeN R W).length + R.length ≤ W := by
  have := nodup_len (l := freeN R W ++ R.map hd) (W := W) (List.nodup_append.mpr ⟨freeN_nodup R W, ?_, fun a ha b hb e => ?_⟩) fun x hx => ?_
  · rw [List.length_append, List.length_map] at this
    exact this
  · unfold List.Nodup
    rw [List.pairwise_map]
    exact rd.pw.imp fun h => by omega
  · obtain ⟨r, hr, er⟩ := List.mem_map.mp hb
    exact (freeN_mem.mp ha).2 r hr (by rw [er, e])
  · rcases List.mem_append.mp hx with h | h
    · exact (freeN_mem.mp h).1
    · obtain ⟨r, hr, er⟩ := List.mem_map.mp h
      rw [← er]
      exact red_hd_lt rd hr
theorem kernel_A {W E : Nat} {rows : List (List Rat)} (hw : ∀ r ∈ rows, r.length = W) (hW : W < 100000) (hs : A_steps_of rows) (hb : ∀ r ∈ stI rows, RB E r) (hc : (E * ((stI rows).length + 1) + 1) * 2 ^ (W - (stI rows).length) ≤ 60000000) :
    A_kernel_of rows (W : Int) ∧ ∃ c, c + (stI rows).length ≤ W ∧ m_kernel_of rows (W : Int) = m_told_rows (stI (kerFound ((stI rows).map toldRow) W W)) ∧ (stI (kerFound ((stI rows).map toldRow) W W)).length = c ∧ ∀ r ∈ stI (kerFound ((stI rows).map toldRow) W W), RB (eb (E * ((stI rows).length + 1)) c) r := by
  obtain ⟨rd, _⟩ := stI_spec hw
  have fw := found_wd rd
  have fl := free_len rd
  have cl : (stI (kerFound ((stI rows).map toldRow) W W)).length + (stI rows).length ≤ W := by
    have h1 := (int_spec (ints_wd fw)).2.2
    have h2 : (m_ints_of (kerFound ((stI rows).map toldRow) W W)).length = (freeN (stI rows) W).length := by
      unfold m_ints_of
      rw [List.length_map, found_eq rd, List.length_map]
    have h3 : (stI (kerFound ((stI rows).map toldRow) W W)).length ≤ (freeN (stI rows) W).length := by rw [← h2]; exact h1
    omega
  have hc2 : (E * ((stI rows).length + 1) + 1) * 2 ^ (stI (kerFound ((stI rows).map toldRow) W W)).length ≤ 60000000 := Nat.le_trans (Nat.mul_le_mul_left _ (pow_mono (by omega))) hc
  have hE : E * (stI rows).length < 60000000 := by
    have : 1 ≤ 2 ^ (W - (stI rows).length) := Nat.pow_pos (by decide)
    have h3 := Nat.mul_le_mul_left (E * ((stI rows).length + 1) + 1) this
    rw [Nat.mul_add] at h3 hc
    omega
  obtain ⟨p0, p1, _⟩ := prodH_ok (fun r hr => (rd.wd r hr).2) hb
  obtain ⟨s1, s2⟩ := steps_A (W := W) (B := E * ((stI rows).length + 1)) (H := E * (stI rows).length) fw hE (fun r hr => ⟨prodH (stI rows), p0, p1, by
    rw [found_eq rd] at hr
    obtain ⟨f, hf, rfl⟩ := List.mem_map.mp hr
    obtain ⟨f1, f2⟩ := freeN_mem.mp hf
    exact kerRow_CD rd hb f1 f2⟩) hc2
  refine ⟨⟨Int.natCast_nonneg _, by omega, hs, fun r hr => ?_, s1⟩, _, cl, rfl, rfl, s2⟩
  rw [steps_eq] at hr
  obtain ⟨q, hq, rfl⟩ := List.mem_map.mp hr
  refine ⟨?_, by rw [(told_spec q).1, (rd.wd q hq).1]; rfl⟩
  have hp := (rd.wd q hq).2
  have e := nums_hd q hp
  have h1 : an (nums (toldRow q)) (hd q) ≠ 0 := by
    have k := (told_spec q).2 (hd q)
    unfold vQ vI at k
    have nz := cast_ne (a := an q (hd q)) (by omega)
    have k2 : aq (toldRow q) (hd q) = 1 := by rw [k]; grind
    have e1 : an (nums (toldRow q)) (hd q) = (aq (toldRow q) (hd q)).num := by
      unfold an aq nums
      rw [List.getElem?_map]
      cases (toldRow q)[hd q]? with
      | none => rfl
      | some x => rfl
    rw [e1, k2]
    decide
  exact ⟨_, an_mem (by
    unfold nums
    rw [List.length_map, (told_spec q).1, (rd.wd q hq).1]
    exact red_hd_lt rd hq), h1⟩
end PL
set_option Elab.async false
set_option linter.all false
set_option maxRecDepth 100000
/-! Sizes: tables, base words. -/
namespace PL
open TW LA
open L2 hiding V
theorem CD.mul {h g : Int} {a b : Nat} {p q : Rat} (k : CD h a p) (l : CD g b q) : CD (h * g) (a + b) (p * q) := by
  obtain ⟨x, e, lx⟩ := k
  obtain ⟨y, f, ly⟩ := l
  refine ⟨x * y, ?_, ?_⟩
  · rw [Rat.intCast_mul, Rat.intCast_mul, ← e, ← f]; grind
  · rw [Int.natAbs_mul, Nat.pow_add]
    exact Nat.mul_le_mul lx ly
theorem sum_CD0 {α : Type} {h : Int} {N : Nat} {f : α → Rat} : ∀ {l : List α}, (∀ a ∈ l, ∃ x : Int, f a * (h : Rat) = (x : Rat) ∧ x.natAbs ≤ N) → ∃ x : Int, sumL l f * (h : Rat) = (x : Rat) ∧ x.natAbs ≤ l.length * N := by
  intro l
  induction l with
  | nil => exact fun _ => ⟨0, by rw [sumL_nil]; grind, Nat.zero_le _⟩
  | cons a l ih =>
    intro k
    obtain ⟨x, e, lx⟩ := k a (List.mem_cons_self ..)
    obtain ⟨y, f', ly⟩ := ih fun b hb => k b (List.mem_cons_of_mem _ hb)
    refine ⟨x + y, ?_, ?_⟩
    · rw [sumL_cons, Rat.intCast_add, ← e, ← f']; grind
    · rw [List.length_cons, Nat.add_mul]
      omega
theorem sum_CD {α : Type} {h : Int} {b m : Nat} {f : α → Rat} {l : List α} (k : ∀ a ∈ l, CD h b (f a)) (hm : l.length ≤ 2 ^ m) : CD h (b + m) (sumL l f) := by
  obtain ⟨x, e, lx⟩ := sum_CD0 k
  refine ⟨x, e, Nat.le_trans lx ?_⟩
  rw [Nat.add_comm b m, Nat.pow_add]
  exact Nat.mul_le_mul_right _ hm
def EntT (h : Int) (b : Nat) (t : List (List Rat)) : Prop := ∀ r ∈ t, ∀ q ∈ r, CD h b q
theorem EntT.mono {h : Int} {b c : Nat} {t : List (List Rat)} (k : EntT h b t) (hc : b ≤ c) : EntT h c t := fun r hr q hq => (k r hr q hq).mono hc
theorem EntT.flat {h : Int} {b : Nat} {t : List (List Rat)} (k : EntT h b t) : ∀ q ∈ t.flatten, CD h b q := fun q hq => by
  obtain ⟨r, hr, hq⟩ := List.mem_flatten.mp hq
  exact k r hr q hq
theorem EntT.ent {h : Int} {b p q i j : Nat} {t : Tab} (k : EntT h b t) (s : Shp t p q) (hi : i < p) (hj : j < q) : CD h b (ent t i j) := by
  have h1 : i < t.length := by rw [s.1]; exact hi
  have h2 := s.2 _ (al_mem h1)
  exact k _ (al_mem h1) _ (aq_mem (by omega))
theorem entT_of {h : Int} {b p q : Nat} {t : Tab} (s : Shp t p q) (k : ∀ i j, i < p → j < q → CD h b (ent t i j)) : EntT h b t := fun r hr x hx => by
  obtain ⟨i, hi, e⟩ := mem_al hr
  obtain ⟨j, hj, f⟩ := mem_aq hx
  rw [← f, ← e]
  exact k i j (by rw [← s.1]; exact hi) (by rw [s.2 r hr] at hj; exact hj)
theorem one_ne : (1 : Int) ≠ 0 := by decide
theorem bare_A {h : Int} {b H p q : Nat} {t : Tab} (s : Shp t p q) (hp : 0 < p) (hq : 0 < q) (hpq : p * q < 1000) (h0 : h ≠ 0) (hh : h.natAbs ≤ 2 ^ H) (hH : H < 60000000) (hb : b < 60000000) (k : EntT h b t) :
    A_bare_table t ∧ (∀ r ∈ (m_bare_table t).2, RB b r) ∧ Sm (m_bare_table t).1 ∧ (m_bare_table t).1 ≠ 0 := by
  obtain ⟨w1, w2⟩ := wholes_A h0 hh hH hb k.flat
  have fl := flatten_len s
  have wd : wideQ t = q := by
    have := s.1
    cases t with
    | nil => simp at this; omega
    | cons r t => exact s.2 r (List.mem_cons_self ..)
  have hp1 : p < 1000 := Nat.lt_of_le_of_lt (Nat.le_mul_of_pos_right _ hq) hpq
  have hq1 : q < 1000 := Nat.lt_of_le_of_lt (Nat.le_mul_of_pos_left _ hp) hpq
  obtain ⟨c, c0, c1, c2, c3⟩ := bare_tab s hp
  refine ⟨⟨w1, by omega, by rw [s.1]; exact hp1, by rw [wd]; exact hq1⟩, fun r hr => ?_, ?_, by omega⟩
  · obtain ⟨x1, x2⟩ := chop_spec (r := (m_wholes t.flatten).2) (p := p) (q := q) (by rw [(wholes_spec _).1, fl])
    have e : (m_bare_table t).2 = chop (m_wholes t.flatten).2 q p := by
      unfold m_bare_table
      rw [if_neg (by have := s.1; omega), wd, s.1]
    rw [e] at hr
    obtain ⟨i, hi, ei⟩ := mem_al hr
    have hi' : i < p := by rw [x1.1] at hi; exact hi
    intro j
    rw [← ei]
    by_cases hj : j < q
    · have := x2 i j hi' hj
      unfold an
      rw [this]
      exact w2 _
    · rw [an_ge (by rw [x1.2 _ (al_mem hi)]; omega)]
      exact Nat.zero_le _
  · have e : (m_bare_table t).1 = lcmL t.flatten := by
      unfold m_bare_table
      rw [if_neg (by have := s.1; omega)]
      rfl
    rw [e]
    have := w1.1 t.flatten.length
    rw [List.take_length] at this
    exact this
theorem prod_A {h g : Int} {a b H G m p q s : Nat} {t o : Tab} (st : Shp t p q) (so : Shp o q s) (hp : 0 < p) (hq : 0 < q) (hs : 0 < s) (hpq : p * q < 1000) (hqs : q * s < 1000) (hm : q ≤ 2 ^ m) (h0 : h ≠ 0) (g0 : g ≠ 0) (hh : h.natAbs ≤ 2 ^ H) (hg : g.natAbs ≤ 2 ^ G)
    (hH : H < 60000000) (hG : G < 60000000) (ha : a < 60000000) (hb : b < 60000000) (k : EntT h a t) (l : EntT g b o) : A_product_of t o ∧ EntT (h * g) (a + b + m) (m_product_of t o) := by
  obtain ⟨t1, t2, t3, t4⟩ := bare_A st hp hq hpq h0 hh hH ha k
  obtain ⟨o1, o2, o3, o4⟩ := bare_A so hq hs hqs g0 hg hG hb l
  obtain ⟨_, _, _, c2, _⟩ := bare_tab so hq
  refine ⟨⟨t1, o1, ⟨fun r hr => (t2 r hr).sm ha, fun r hr => ⟨?_, (o2 r hr).sm hb⟩⟩, Int.mul_ne_zero t4 o4, t3, o3⟩, ?_⟩
  · rw [wideI_shp c2 hq]
    exact c2.2 r hr
  · obtain ⟨p1, p2⟩ := prod_spec st so hp hq
    refine entT_of p1 fun i j hi hj => ?_
    rw [p2 i j hi hj]
    refine sum_CD (fun x hx => ?_) (by rw [List.length_range]; exact hm)
    have hx' := List.mem_range.mp hx
    exact (k.ent st hi hx').mul (l.ent so hx' hj)
/-! a house of whole numbers -/
structure HOk (n : Nat) (h : Hou) : Prop where
  sq : Sq n h
  le : n ≤ 4
  ls : ∀ t ∈ h.ls, EntT 1 6 t
  one : h.ls ≠ []
  many : h.ls.length ≤ 3
theorem nn_le {n : Nat} (h : n ≤ 4) : n * n ≤ 16 := Nat.mul_le_mul h h
theorem one_le : (1 : Int).natAbs ≤ 2 ^ 0 := by decide
theorem prod1_A {a b n : Nat} {t o : Tab} (st : Shp t n n) (so : Shp o n n) (hn : 0 < n) (h4 : n ≤ 4) (ha : a < 60000000) (hb : b < 60000000) (k : EntT 1 a t) (l : EntT 1 b o) : A_product_of t o ∧ EntT 1 (a + b + 2) (m_product_of t o) := by
  have := nn_le h4
  exact prod_A st so hn hn hn (by omega) (by omega) (by omega) one_ne one_ne one_le one_le (by omega) (by omega) ha hb k l
theorem long_A {b n : Nat} {t : Tab} (st : Shp t n n) (h4 : n ≤ 4) (hb : b < 60000000) (k : EntT 1 b t) : A_long_with [t] ∧ RB b (m_long_with [t]) := by
  have := nn_le h4
  have fl := flatten_len st
  obtain ⟨w1, w2⟩ := wholes_A one_ne one_le (by omega) hb k.flat
  have e : [t].flatMap m_long_of = t.flatten := by simp [m_long_of]
  unfold A_long_with m_long_with
  rw [e]
  refine ⟨⟨fun u hu => ?_, by omega, w1⟩, w2⟩
  rw [List.mem_singleton] at hu
  rw [hu]
  show t.flatten.length < 1000
  omega
theorem idle_ent (n : Nat) : EntT 1 0 (m_idle_of (n : Int)) := by
  obtain ⟨i1, i2⟩ := idle_mt n
  refine entT_of i1 fun i j hi hj => ?_
  have e : ent (m_idle_of (n : Int)) i j = (oneM : Mt n) ⟨i, hi⟩ ⟨j, hj⟩ := by rw [← i2]; rfl
  rw [e]
  unfold oneM
  split
  · exact ⟨1, by grind, by decide⟩
  · exact ⟨0, by grind, by decide⟩
/-! rows with a head that later ones lack -/
theorem tri_len {W : Nat} {S : List (List Int)} (T : Tri W S) : S.length ≤ W := by
  have := nodup_len (l := S.map hd) (W := W) ?_ fun x hx => ?_
  · rw [List.length_map] at this
    exact this
  · unfold List.Nodup
    rw [List.pairwise_map]
    refine T.pw.imp_of_mem ?_
    intro r s hr hs h e
    exact (T.wd s hs).2 (by rw [← e]; exact h)
  · obtain ⟨r, hr, rfl⟩ := List.mem_map.mp hx
    obtain ⟨h1, h2⟩ := T.wd r hr
    apply Classical.byContradiction
    intro c
    exact h2 (an_ge (by omega))
def RowB (c : Nat) (S : List (List Int)) : Prop := ∀ (i : Nat) (s : List Int), S[i]? = some s → RB (eb c i) s
theorem left_bits {W c : Nat} {S : List (List Int)} (T : Tri W S) (hb : RowB c S) {row : List Int} (hl : row.length = W) (hr : RB c row) : ∀ n, n ≤ S.length → (m_left_of (S.take n) row).length = W ∧ RB (eb c n) (m_left_of (S.take n) row) := by
  intro n
  induction n with
  | zero =>
    intro _
    rw [eb_zero]
    exact ⟨hl, hr⟩
  | succ n ih =>
    intro hn
    obtain ⟨i1, i2⟩ := ih (by omega)
    have e : S.take (n + 1) = S.take n ++ [S[n]] := by rw [List.take_append_getElem]
    have eS : S[n]? = some S[n] := List.getElem?_eq_getElem (by omega)
    have e2 : m_left_of (S.take (n + 1)) row = m_cleared (m_left_of (S.take n) row) S[n] (hd S[n] : Int) := by
      rw [e]
      unfold m_left_of
      rw [List.foldl_append]
      rfl
    obtain ⟨w1, w2⟩ := T.wd S[n] (List.getElem_mem _)
    rw [e2, eb_succ]
    exact ⟨by rw [(cleared_spec (by rw [i1, w1]) w2).1, i1], cleared_RB (by rw [i1, w1]) i2 (hb n _ eS)⟩
theorem left_A {W c : Nat} {S : List (List Int)} (T : Tri W S) (hb : RowB c S) {row : List Int} (hl : row.length = W) (hr : RB c row) (hc : eb c S.length < 60000000) : A_left_of S row ∧ RB (eb c S.length) (m_left_of S row) := by
  refine ⟨fun n s hs => ?_, ?_⟩
  · have hn : n < S.length := by
      apply Classical.byContradiction
      intro z
      rw [List.getElem?_eq_none (by omega)] at hs
      cases hs
    obtain ⟨i1, i2⟩ := left_bits T hb hl hr n (by omega)
    have hm : s ∈ S := List.mem_of_getElem? hs
    obtain ⟨w1, w2⟩ := T.wd s hm
    have hlt : hd s < s.length := by
      apply Classical.byContradiction
      intro z
      exact w2 (an_ge (by omega))
    have := eb_mono (b := c) (show n ≤ S.length by omega)
    have hW : hd s < W := by rw [← w1]; exact hlt
    exact ⟨⟨_, an_mem hlt, w2⟩, cleared_A i1 w1 hW i2 (hb n s hs) (by omega) (by omega)⟩
  · have := (left_bits T hb hl hr S.length (Nat.le_refl _)).2
    rw [List.take_length] at this
    exact this
/-! base words -/
abbrev CB : Nat := 136
theorem eb_16 {j : Nat} (h : j ≤ 16) : eb CB j < 60000000 := by
  have h1 := eb_mono (b := CB) h
  have h2 : eb CB 16 < 60000000 := by decide
  omega
def WdI (n k : Nat) (w : Wd) : Prop := w.1.length = k ∧ ∃ t, w.2 = [t] ∧ Shp t n n ∧ EntT 1 (8 * k) t
structure BI (n k r0 : Nat) (s : Bs) : Prop where
  tri : Tri (n * n) s.1
  rb : RowB CB s.1
  cnt : s.1.length = r0 + s.2.length
  wd : ∀ w ∈ s.2, WdI n (k + 1) w
theorem rowB_more {c : Nat} {S : List (List Int)} {r : List Int} (h : RowB c S) (hr : RB (eb c S.length) r) : RowB c (S ++ [r]) := fun i s hs => by
  rcases Nat.lt_trichotomy i S.length with hi | hi | hi
  · rw [List.getElem?_append_left hi] at hs
    exact h i s hs
  · subst hi
    rw [List.getElem?_append_right (Nat.le_refl _), Nat.sub_self] at hs
    cases hs
    exact hr
  · rw [List.getElem?_append_right (by omega), List.getElem?_eq_none (by simp; omega)] at hs
    cases hs
theorem letter_ok {n : Nat} {h : Hou} (H : HOk n h) {l : Nat} (hl : l < h.ls.length) : Shp (letterAt h (l : Int)) n n ∧ EntT 1 6 (letterAt h (l : Int)) := by
  have e1 : letterAt h (l : Int) = h.ls[l] := by unfold letterAt; rw [atL_nat, al_lt hl]
  rw [e1]
  exact ⟨H.sq.ls _ (List.getElem_mem _), H.ls _ (List.getElem_mem _)⟩
theorem bi_step {n k r0 : Nat} {h : Hou} (H : HOk n h) (hk : k ≤ 15) (hr0 : 1 ≤ r0) {s : Bs} (B : BI n k r0 s) {w : Wd} (W : WdI n k w) {l : Nat} (hl : l < h.ls.length) : A_stepB [h] s (w, (l : Int)) ∧ BI n k r0 (stepB [h] s (w, (l : Int))) := by
  obtain ⟨w1, t, w2, w3, w4⟩ := W
  obtain ⟨l1, l2⟩ := letter_ok H hl
  have late : lateOf [h] w.2 (l : Int) = [m_product_of t (letterAt h (l : Int))] := by rw [w2]; rfl
  obtain ⟨p1, p2⟩ := prod1_A w3 l1 H.sq.pos H.le (by omega) (by omega) w4 l2
  have p3 := (prod_mt w3 l1 H.sq.pos).1
  have p4 : EntT 1 (8 * (k + 1)) (m_product_of t (letterAt h (l : Int))) := p2.mono (by omega)
  obtain ⟨g1, g2⟩ := long_A p3 H.le (by omega) p4
  have g3 : RB CB (m_long_with [m_product_of t (letterAt h (l : Int))]) := g2.mono (by unfold CB; omega)
  have gl := (long_one _ p3).1
  have len := tri_len B.tri
  have nn := nn_le H.le
  obtain ⟨f1, f2⟩ := left_A B.tri B.rb gl g3 (eb_16 (by omega))
  have cnt := B.cnt
  refine ⟨⟨fun q hq => ?_, by rw [late]; exact g1, by rw [late]; exact f1, by omega, by omega, fun e => ?_, by show w.1.length < 1000; omega⟩, ?_⟩
  · have hq2 : q ∈ [t].zip [h] := by rw [← w2]; exact hq
    simp at hq2
    subst hq2
    exact ⟨inR_nat hl, p1⟩
  · rw [e] at cnt
    simp at cnt
    omega
  · unfold stepB putLate
    simp only
    rw [late]
    split
    · rename_i nz
      refine ⟨tri_more B.tri gl ((any_iff _).mp nz), rowB_more B.rb (bare_RB f2), ?_, fun u hu => ?_⟩
      · rw [List.length_append, List.length_append, cnt]
        simp only [List.length_cons, List.length_nil]
        omega
      · rcases List.mem_append.mp hu with h1 | h1
        · exact B.wd u h1
        · rw [List.mem_singleton] at h1
          subst h1
          refine ⟨?_, _, rfl, p3, p4⟩
          show (w.1 ++ [(l : Int)]).length = k + 1
          rw [List.length_append, w1]
          rfl
    · exact B
theorem bi_let {n k r0 : Nat} {h : Hou} (H : HOk n h) (hk : k ≤ 15) (hr0 : 1 ≤ r0) {w : Wd} (W : WdI n k w) : ∀ (ls : List Int), (∀ l ∈ ls, ∃ m : Nat, l = (m : Int) ∧ m < h.ls.length) → ∀ {s : Bs}, BI n k r0 s → BI n k r0 (letB [h] w s ls) := fun ls => by
  induction ls with
  | nil => exact fun _ _ B => B
  | cons l ls ih =>
    intro hm s B
    obtain ⟨m, e, lt⟩ := hm l (List.mem_cons_self ..)
    have := (bi_step H hk hr0 B W lt).2
    rw [← e] at this
    exact ih (fun x hx => hm x (List.mem_cons_of_mem _ hx)) this
theorem bi_words {n k r0 : Nat} {h : Hou} (H : HOk n h) (hk : k ≤ 15) (hr0 : 1 ≤ r0) : ∀ (ws : List Wd), (∀ w ∈ ws, WdI n k w) → ∀ {s : Bs}, BI n k r0 s → BI n k r0 (wordsB [h] s ws) := fun ws => by
  induction ws with
  | nil => exact fun _ _ B => B
  | cons w ws ih =>
    intro hm s B
    exact ih (fun x hx => hm x (List.mem_cons_of_mem _ hx)) (bi_let H hk hr0 (hm w (List.mem_cons_self ..)) (upto (manyB [h])) (fun l hl => upto_memN hl) B)
structure LI (n k : Nat) (s : Lot) : Prop where
  tri : Tri (n * n) s.rows
  rb : RowB CB s.rows
  cnt : s.found.length = s.rows.length
  one : 1 ≤ s.found.length
  last : ∀ w ∈ s.last, WdI n k w
  lv : s.last ≠ [] → k + 1 ≤ s.found.length
  found : ∀ w ∈ s.found, ∃ j, j + 1 ≤ s.found.length ∧ WdI n j w
theorem li_start {n : Nat} {h : Hou} (H : HOk n h) : LI n 0 (startB [h]) ∧ A_long_with [m_idle_of (n : Int)] := by
  obtain ⟨i1, i2⟩ := idle_mt n
  have e1 : startB [h] = ⟨[([], [m_idle_of (n : Int)])], [([], [m_idle_of (n : Int)])], [m_long_with [m_idle_of (n : Int)]]⟩ := by unfold startB; rw [List.map_cons, List.map_nil, H.sq.wd]
  obtain ⟨g1, g2⟩ := long_A i1 H.le (by omega) (idle_ent n)
  have W : WdI n 0 ([], [m_idle_of (n : Int)]) := ⟨rfl, _, rfl, i1, idle_ent n⟩
  have T := (start_R (led_self H.sq)).rows.ta
  rw [e1] at T ⊢
  refine ⟨⟨T, fun i s hs => ?_, rfl, Nat.le_refl 1, fun w hw => ?_, fun _ => Nat.le_refl 1, fun w hw => ?_⟩, g1⟩
  · cases i with
    | zero => cases hs; exact g2.mono (by unfold eb CB; omega)
    | succ i => simp at hs
  · rw [List.mem_singleton] at hw
    rw [hw]; exact W
  · rw [List.mem_singleton] at hw
    rw [hw]; exact ⟨0, Nat.le_refl 1, W⟩
theorem li_grow {n k : Nat} {h : Hou} (H : HOk n h) {s : Lot} (L : LI n k s) : LI n (k + 1) (growB [h] s) ∧ A_growB [h] s := by
  have len := tri_len L.tri
  have nn := nn_le H.le
  have cnt := L.cnt
  have one := L.one
  by_cases hl : s.last = []
  · have e : wordsB [h] (s.rows, []) s.last = (s.rows, []) := by rw [hl]; rfl
    unfold growB A_growB
    rw [e]
    refine ⟨⟨L.tri, L.rb, by rw [List.append_nil]; exact cnt, by rw [List.append_nil]; exact one, fun w hw => (List.not_mem_nil hw).elim, fun h => absurd rfl h, by rw [List.append_nil]; exact L.found⟩, by simp; omega, fun m w hw => ?_⟩
    rw [hl] at hw
    cases hw
  · have lv := L.lv hl
    have hk : k ≤ 15 := by omega
    have B0 : BI n k s.found.length (s.rows, []) := ⟨L.tri, L.rb, by rw [cnt]; rfl, fun w hw => (List.not_mem_nil hw).elim⟩
    have B := bi_words H hk one s.last L.last B0
    have len2 := tri_len B.tri
    have c2 := B.cnt
    refine ⟨⟨B.tri, B.rb, by show (s.found ++ _).length = _; rw [List.length_append]; exact c2.symm, by show 1 ≤ (s.found ++ _).length; rw [List.length_append]; omega, B.wd, fun ne => ?_, fun w hw => ?_⟩, by omega, fun m w hw m2 l hl2 => ?_⟩
    · show k + 1 + 1 ≤ (s.found ++ _).length
      rw [List.length_append]
      have := List.length_pos_iff.mpr ne
      have e : (growB [h] s).last = (wordsB [h] (s.rows, []) s.last).2 := rfl
      rw [e] at this
      omega
    · show ∃ j, j + 1 ≤ (s.found ++ _).length ∧ _
      rw [List.length_append]
      rcases List.mem_append.mp hw with h1 | h1
      · obtain ⟨j, j1, j2⟩ := L.found w h1
        exact ⟨j, by omega, j2⟩
      · have := List.length_pos_of_mem h1
        exact ⟨k + 1, by omega, B.wd w h1⟩
    · have hw2 : w ∈ s.last := List.mem_of_getElem? hw
      obtain ⟨m3, e, lt⟩ := upto_memN (List.mem_of_getElem? hl2)
      rw [e]
      refine (bi_step H hk one ?_ (L.last w hw2) lt).1
      refine bi_let H hk one (L.last w hw2) _ (fun x hx => upto_memN (List.mem_of_mem_take hx)) ?_
      exact bi_words H hk one _ (fun x hx => L.last x (List.mem_of_mem_take hx)) B0
theorem li_run {n : Nat} {h : Hou} (H : HOk n h) (k : Nat) : LI n k (runB [h] k) := by
  induction k with
  | zero => exact (li_start H).1
  | succ k ih => exact (li_grow H ih).1
theorem last_end {n : Nat} {h : Hou} (H : HOk n h) {k : Nat} (hk : 16 ≤ k) : (runB [h] k).last = [] := by
  have L := li_run H k
  apply Classical.byContradiction
  intro c
  have := L.lv c
  have := tri_len L.tri
  have := nn_le H.le
  have := L.cnt
  omega
theorem end_last {h : Hou} (f k : Nat) (hl : (runB [h] (k + f)).last = []) : (runB [h] (endB [h] f k)).last = [] := by
  induction f generalizing k with
  | zero => exact hl
  | succ f ih =>
    unfold endB
    by_cases e : (runB [h] k).last.isEmpty
    · rw [if_pos e]
      exact List.isEmpty_iff.mp e
    · rw [if_neg e]
      exact ih (k + 1) (by rw [Nat.add_right_comm]; exact hl)
theorem base_A {n : Nat} {h : Hou} (H : HOk n h) : A_base_of h ∧ (m_base_of h).length ≤ n * n ∧ ∀ p ∈ m_base_of h, Shp p.2 n n ∧ EntT 1 (8 * ((m_base_of h).length - 1)) p.2 := by
  have L := li_run H (endB [h] 20 0)
  have e : m_base_with [h] = (runB [h] (endB [h] 20 0)).found := rfl
  have len := tri_len L.tri
  have bl : (m_base_of h).length = (runB [h] (endB [h] 20 0)).found.length := by unfold m_base_of; rw [List.length_map, e]
  refine ⟨⟨⟨List.cons_ne_nil _ _, fun g hg => ?_, ?_, ?_, fun k => (li_grow H (li_run H k)).2, end_last 20 0 (last_end H (by omega))⟩, fun p hp => ?_⟩, by rw [bl, L.cnt]; exact len, fun p hp => ?_⟩
  · rw [List.mem_singleton] at hg
    subst hg
    rw [H.sq.wd]
    exact ⟨Int.natCast_nonneg _, by have := H.le; omega⟩
  · rw [List.map_cons, List.map_nil, H.sq.wd]
    exact (li_start H).2
  · show h.ls.length < 100
    have := H.many
    omega
  · rw [e] at hp
    obtain ⟨j, _, _, t, w2, _⟩ := L.found p hp
    rw [w2]
    exact List.cons_ne_nil _ _
  · unfold m_base_of at hp
    obtain ⟨w, hw, rfl⟩ := List.mem_map.mp hp
    rw [e] at hw
    obtain ⟨j, j1, _, t, w2, w3, w4⟩ := L.found w hw
    show Shp (w.2.headD []) n n ∧ EntT 1 _ (w.2.headD [])
    rw [w2]
    exact ⟨w3, w4.mono (by rw [bl]; omega)⟩
end PL
set_option Elab.async false
set_option linter.all false
set_option maxRecDepth 100000
/-! Sizes: the table of sums, what commutes. -/
namespace PL
open TW LA
open L2 hiding V
theorem cd_sm {h : Int} {b H : Nat} {q : Rat} (k : CD h b q) (h0 : h ≠ 0) (hh : h.natAbs ≤ 2 ^ H) (hH : H < 60000000) (hb : b < 60000000) : SmQ q := by
  obtain ⟨p1, p2, p3⟩ := cd_parts h0 k
  exact ⟨sm_of p2 hb, sm_of (b := H) (by rw [Int.natAbs_natCast]; exact Nat.le_trans p3 hh) hH⟩
theorem cd1_sm {b : Nat} {q : Rat} (k : CD 1 b q) (hb : b < 60000000) : SmQ q := cd_sm k one_ne one_le (by omega) hb
theorem cd_zero (h : Int) (b : Nat) : CD h b 0 := ⟨0, by grind, Nat.zero_le _⟩
theorem atQ_CD {h : Int} {b : Nat} {t : Tab} (k : EntT h b t) (i j : Int) : CD h b (atQ (atL t i) j) := by
  unfold atQ atL
  cases e : t[i.toNat]? with
  | none => exact cd_zero h b
  | some r =>
    show CD h b ((r[j.toNat]?).getD 0)
    cases e2 : r[j.toNat]? with
    | none => exact cd_zero h b
    | some q => exact k r (List.mem_of_getElem? e) q (List.mem_of_getElem? e2)
theorem enum_mem {α : Type} {xs : List α} {p : Int × α} (h : p ∈ enumL xs) : p.2 ∈ xs := (List.of_mem_zip h).2
theorem enum_len {α : Type} (xs : List α) : (enumL xs).length = xs.length := by unfold enumL; simp
theorem enum_at {α : Type} {xs : List α} {p : Int × α} (h : p ∈ enumL xs) : ∃ k : Nat, k < xs.length ∧ p.1 = (k : Int) ∧ xs[k]? = some p.2 := by
  unfold enumL at h
  obtain ⟨i, hi, e⟩ := List.mem_iff_getElem.mp h
  rw [List.getElem_zip] at e
  have hi2 : i < xs.length := by simp at hi; exact hi
  exact ⟨i, hi2, by rw [← e]; simp, by rw [← e]; exact List.getElem?_eq_getElem hi2⟩
theorem cross_CD {a b : Nat} {t o : Tab} (k : EntT 1 a t) (l : EntT 1 b o) : ∀ q ∈ crossOf t o, CD 1 (a + b) q := fun q hq => by
  unfold crossOf at hq
  obtain ⟨p, hp, hq⟩ := List.mem_flatMap.mp hq
  obtain ⟨x, hx, rfl⟩ := List.mem_map.mp hq
  exact (k _ (enum_mem hp) _ (enum_mem hx)).mul (atQ_CD l _ _)
theorem cross_len {n : Nat} {t o : Tab} (st : Shp t n n) : (crossOf t o).length = n * n := by
  unfold crossOf
  rw [List.length_flatMap]
  have : (enumL t).map (fun p => ((enumL p.2).map fun x => x.2 * atQ (atL o x.1) p.1).length) = List.replicate n n := by
    refine List.eq_replicate_iff.mpr ⟨by rw [List.length_map, enum_len, st.1], fun b hb => ?_⟩
    obtain ⟨p, hp, rfl⟩ := List.mem_map.mp hb
    rw [List.length_map, enum_len]
    exact st.2 _ (enum_mem hp)
  rw [this, List.sum_replicate_nat]
theorem total_A {b : Nat} {r : List Rat} (k : ∀ q ∈ r, CD 1 b q) (hl : r.length ≤ 2 ^ 4) (hb : b < 50000000) : A_total_of r ∧ CD 1 (b + 4) (sumQ r) := by
  have key : ∀ s : List Rat, (∀ q ∈ s, CD 1 b q) → s.length ≤ 2 ^ 4 → CD 1 (b + 4) (sumQ s) := fun s hs hl => by
    rw [sumQ_eq]
    exact sum_CD hs hl
  refine ⟨⟨fun n => cd1_sm (key (r.take n) (fun q hq => k q (List.mem_of_mem_take hq)) (by rw [List.length_take]; omega)) (by omega), fun q hq => cd1_sm (k q hq) (by omega)⟩, key r k hl⟩
theorem two_A {n a : Nat} {t o : Tab} (h4 : n ≤ 4) (st : Shp t n n) (so : Shp o n n) (ha : a ≤ 1000) (k : EntT 1 a t) (l : EntT 1 a o) : A_sum_of_two t o ∧ CD 1 (a + a + 4) (m_sum_of_two t o) := by
  have := nn_le h4
  obtain ⟨t1, t2⟩ := total_A (cross_CD k l) (by rw [cross_len st]; omega) (by omega)
  refine ⟨⟨by rw [st.1]; exact h4, ⟨rfl, fun r hr => by rw [st.1]; exact st.2 r hr⟩, ⟨by rw [st.1]; exact so.1, fun r hr => by rw [st.1]; exact so.2 r hr⟩, fun r hr x hx => cd1_sm (k r hr x hx) (by omega), fun r hr x hx => cd1_sm (l r hr x hx) (by omega), t1⟩, t2⟩
theorem st_len {W : Nat} {rows : List (List Rat)} (hw : ∀ r ∈ rows, r.length = W) : (stI rows).length ≤ rows.length ∧ (stI rows).length ≤ W := by
  obtain ⟨rd, _⟩ := stI_spec hw
  have h1 := (int_spec (ints_wd hw)).2.2
  have h2 := free_len rd
  constructor
  · have : (m_ints_of rows).length = rows.length := by unfold m_ints_of; rw [List.length_map]
    rw [← this]
    exact h1
  · omega
theorem parts_A {n : Nat} {h : Hou} (H : HOk n h) : A_parts h := by
  obtain ⟨b1, b2, b3⟩ := base_A H
  have nn := nn_le H.le
  have two : ∀ p ∈ m_base_of h, ∀ q ∈ m_base_of h, A_sum_of_two p.2 q.2 ∧ CD 1 (120 + 120 + 4) (m_sum_of_two p.2 q.2) := fun p hp q hq =>
    two_A H.le (b3 p hp).1 (b3 q hq).1 (by omega) ((b3 p hp).2.mono (by omega)) ((b3 q hq).2.mono (by omega))
  have wd : ∀ r ∈ m_sums_of (m_base_of h), r.length = (m_base_of h).length := fun r hr => by
    unfold m_sums_of at hr
    obtain ⟨t, ht, rfl⟩ := List.mem_map.mp hr
    rw [List.length_map, List.length_map]
  have sl := (st_len wd).2
  refine ⟨b1, fun p hp q hq => (two p hp q hq).1, (steps_A (W := (m_base_of h).length) (B := 120 + 120 + 4) (H := 0) wd (by omega) (fun r hr => ⟨1, one_ne, one_le, fun q hq => ?_⟩) ?_).1⟩
  · unfold m_sums_of at hr
    obtain ⟨t, ht, rfl⟩ := List.mem_map.mp hr
    obtain ⟨p, hp, rfl⟩ := List.mem_map.mp ht
    obtain ⟨u, hu, rfl⟩ := List.mem_map.mp hq
    obtain ⟨p', hp', rfl⟩ := List.mem_map.mp hu
    exact (two p hp p' hp').2
  · refine Nat.le_trans (Nat.mul_le_mul_left _ (pow_mono (show (stI (m_sums_of (m_base_of h))).length ≤ 16 by omega))) (by decide)
theorem dim_A {n : Nat} {h : Hou} (H : HOk n h) : A_dimension h := (base_A H).1
theorem every_A {n : Nat} {h : Hou} (H : HOk n h) : A_every_table h := ⟨(base_A H).1, by rw [H.sq.wd]; have := H.le; omega⟩
/-! what commutes -/
def RN (N : Nat) (r : List Int) : Prop := ∀ i, (an r i).natAbs ≤ N
theorem take_RB {b m : Nat} {r : List Int} (h : RB b r) : RB b (r.take m) := fun i => by
  by_cases hi : i < m
  · have : an (r.take m) i = an r i := by unfold an; rw [List.getElem?_take_of_lt hi]
    rw [this]; exact h i
  · rw [an_ge (by rw [List.length_take]; omega)]; exact Nat.zero_le _
theorem drop_RB {b m : Nat} {r : List Int} (h : RB b r) : RB b (r.drop m) := fun i => by
  have : an (r.drop m) i = an r (m + i) := by unfold an; rw [List.getElem?_drop]
  rw [this]; exact h _
theorem add_RN {N M p : Nat} {row : List Int} (h : RN N row) (hp : p < row.length) {x : Int} (hx : x.natAbs ≤ M) : RN (N + M) (addAt row (p : Int) x) := fun i => by
  unfold addAt
  rw [at0_nat, Int.toNat_natCast, an_set hp]
  by_cases e : i = p
  · rw [if_pos e]
    have := h p
    omega
  · rw [if_neg e]
    have := h i
    omega
theorem lead_RN {n l p b : Nat} (hl : l < n) (hp : p < n) {here there : List Int} (h1 : RB b here) (h2 : RB b there) (k : Nat) (hk : k ≤ n) :
    RN (k * (2 ^ b + 2 ^ b)) ((upto k).foldl (leadStep here there n (l : Int) (p : Int)) (List.replicate (n * n) 0)) := by
  induction k with
  | zero =>
    intro i
    show (an (List.replicate (n * n) 0) i).natAbs ≤ _
    have : an (List.replicate (n * n) (0 : Int)) i = 0 := by
      unfold an
      rw [List.getElem?_replicate]
      split <;> rfl
    rw [this]; exact Nat.zero_le _
  | succ k ih =>
    have i1 := (lead_dot hl hp here there (fun _ => 0) k (by omega)).1
    have i2 := ih (by omega)
    rw [upto_succ, List.foldl_append, List.foldl_cons, List.foldl_nil]
    generalize (upto k).foldl (leadStep here there n (l : Int) (p : Int)) (List.replicate (n * n) 0) = row at i1 i2 ⊢
    have e : leadStep here there n (l : Int) (p : Int) row (k : Int) = addAt (addAt row ((k * n + p : Nat) : Int) (an here (l * n + k))) ((l * n + k : Nat) : Int) (-(an there (k * n + p))) := by
      unfold leadStep
      rw [← Int.natCast_mul, ← Int.natCast_mul, ← Int.natCast_add, ← Int.natCast_add, at0_nat, at0_nat]
    rw [e, Nat.add_mul, Nat.one_mul, ← Nat.add_assoc]
    refine add_RN (add_RN i2 (by rw [i1]; exact ij_lt (by omega) hp) (h1 _)) ?_ (by rw [Int.natAbs_neg]; exact h2 _)
    unfold addAt
    rw [List.length_set, i1]
    exact ij_lt hl (by omega)
theorem lead_bits {n : Nat} {h : Hou} (H : HOk n h) : (∀ p ∈ h.ls.zip h.ls, A_lead_rows p.1 p.2) ∧ ∀ r ∈ leadsRows h h, RB 9 r := by
  have nn := nn_le H.le
  have key : ∀ t ∈ h.ls, A_wholes (m_long_of t ++ m_long_of t) ∧ RB 6 (bothOf t t) := fun t ht => by
    have := wholes_A (r := m_long_of t ++ m_long_of t) one_ne one_le (b := 6) (by omega) (by omega) fun q hq => by
      rcases List.mem_append.mp hq with h1 | h1
      · exact (H.ls t ht).flat q h1
      · exact (H.ls t ht).flat q h1
    exact this
  refine ⟨fun p hp => ?_, fun r hr => ?_⟩
  · obtain ⟨e, ht⟩ := zip_self.mp hp
    have st := H.sq.ls _ ht
    rw [← e]
    exact ⟨by rw [st.1]; exact H.le, ⟨rfl, fun r hr => by rw [st.1]; exact st.2 r hr⟩, ⟨rfl, fun r hr => by rw [st.1]; exact st.2 r hr⟩, (key _ ht).1⟩
  · obtain ⟨t, ht, l, p, hl, hp, rfl⟩ := (lead_mem H.sq).mp hr
    have := lead_RN hl hp (take_RB (m := n * n) (key t ht).2) (drop_RB (m := n * n) (key t ht).2) n (Nat.le_refl _)
    intro i
    have h1 := this i
    have h2 := H.le
    have h3 : n * (2 ^ 6 + 2 ^ 6) ≤ 4 * (2 ^ 6 + 2 ^ 6) := Nat.mul_le_mul_right _ h2
    exact Nat.le_trans h1 (Nat.le_trans h3 (by decide))
theorem num_com : ∀ W, W < 17 → ∀ r, r < W + 1 → (eb 9 r * (r + 1) + 1) * 2 ^ (W - r) ≤ 60000000 := by decide +kernel
theorem com_A {n : Nat} {h : Hou} (H : HOk n h) : A_commuting h := by
  obtain ⟨l1, l2⟩ := lead_bits H
  have nn := nn_le H.le
  have lw := lead_wd H.sq
  obtain ⟨rd, _, _⟩ := int_spec lw
  have rl : (m_int_steps (leadsRows h h)).length ≤ n * n := by have := free_len rd; omega
  have bits := int_bits lw l2
  have ebl : ∀ r, r ≤ 16 → eb 9 r < 60000000 := fun r hr => by
    have := eb_mono (b := 9) hr
    have h2 : eb 9 16 < 60000000 := by decide
    omega
  obtain ⟨s1, s2, s3⟩ := resteps_A rd bits (ebl _ (by omega))
  show A_leads_of h h
  unfold A_leads_of
  rw [H.sq.wd, nn_cast]
  refine ⟨H.le, by have := H.many; omega, l1, int_A lw l2 ?_, told_A rd, (kernel_A (told_wd rd) (by omega) s1 s2 ?_).1⟩
  · exact Nat.le_trans (Nat.mul_le_mul_left _ (pow_mono (show _ ≤ 16 by omega))) (by decide)
  · rw [s3]
    exact num_com (n * n) (by omega) _ (by omega)
end PL
set_option Elab.async false
set_option linter.all false
set_option maxRecDepth 100000
/-! Sizes: the middle. -/
namespace PL
open TW LA
open L2 hiding V
theorem CD.add {h : Int} {b : Nat} {p q : Rat} (k : CD h b p) (l : CD h b q) : CD h (b + 1) (p + q) := by
  obtain ⟨x, e, lx⟩ := k
  obtain ⟨y, f, ly⟩ := l
  refine ⟨x + y, by rw [Rat.intCast_add, ← e, ← f]; grind, ?_⟩
  rw [Nat.pow_succ]
  omega
theorem CD.neg1 {h : Int} {b : Nat} {q : Rat} (k : CD h b q) : CD h b (-1 * q) := by
  obtain ⟨x, e, lx⟩ := k
  exact ⟨-x, by rw [Rat.intCast_neg, ← e]; grind, by rw [Int.natAbs_neg]; exact lx⟩
theorem CD.over {h m : Int} {b d : Nat} {q : Rat} (k : CD h b q) (hm : m.natAbs ≤ 2 ^ d) : CD (h * m) (b + d) q := by
  obtain ⟨x, e, lx⟩ := k
  refine ⟨x * m, by rw [Rat.intCast_mul, Rat.intCast_mul, ← e]; grind, ?_⟩
  rw [Int.natAbs_mul, Nat.pow_add]
  exact Nat.mul_le_mul lx hm
theorem apart_A {n E : Nat} {l t : Tab} {g : Int} (hn : 0 < n) (h4 : n ≤ 4) (sl : Shp l n n) (st : Shp t n n) (kl : EntT 1 6 l) (g0 : g ≠ 0) (hg : g.natAbs ≤ 2 ^ E) (hE : E < 50000000) (kt : EntT g E t) :
    A_apart_of l t ∧ (m_apart_of l t).length = n * n ∧ ∀ q ∈ m_apart_of l t, CD g (E + 9) q := by
  have nn := nn_le h4
  obtain ⟨p1, p2⟩ := prod_A (m := 2) sl st hn hn hn (by omega) (by omega) (by omega) one_ne g0 one_le hg (by omega) (by omega) (by omega) (by omega) kl kt
  obtain ⟨q1, q2⟩ := prod_A (m := 2) st sl hn hn hn (by omega) (by omega) (by omega) g0 one_ne hg one_le (by omega) (by omega) (by omega) (by omega) kt kl
  rw [Int.one_mul] at p2
  rw [Int.mul_one] at q2
  have p3 := (prod_mt sl st hn).1
  have q3 := (prod_mt st sl hn).1
  have p4 : EntT g (E + 8) (m_product_of l t) := p2.mono (by omega)
  have q4 : EntT g (E + 8) (m_product_of t l) := q2.mono (by omega)
  obtain ⟨m1, m2⟩ := mixed_spec p3 q3 (-1)
  have sm : ∀ q : Rat, CD g (E + 8) q → SmQ q := fun q k => cd_sm k g0 hg (by omega) (by omega)
  refine ⟨⟨p1, q1, ⟨cd1_sm (b := 0) ⟨-1, by decide +kernel, by decide⟩ (by omega), fun p hp x hx => ?_⟩, ?_⟩, (apart_spec sl st hn).1, fun q hq => ?_⟩
  · have hz := List.of_mem_zip hp
    have hy := List.of_mem_zip hx
    exact ⟨sm _ (p4 _ hz.1 _ hy.1), sm _ (q4 _ hz.2 _ hy.2), sm _ (q4 _ hz.2 _ hy.2).neg1⟩
  · show (m_mixed_of _ _ _).flatten.length < 1000
    rw [flatten_len m1]
    omega
  · have hq2 : q ∈ (m_mixed_of (m_product_of l t) (m_product_of t l) (-1)).flatten := hq
    obtain ⟨r, hr, hq3⟩ := List.mem_flatten.mp hq2
    unfold m_mixed_of at hr
    obtain ⟨p, hp, rfl⟩ := List.mem_map.mp hr
    obtain ⟨x, hx, rfl⟩ := List.mem_map.mp hq3
    have hz := List.of_mem_zip hp
    have hy := List.of_mem_zip hx
    exact (p4 _ hz.1 _ hy.1).add (q4 _ hz.2 _ hy.2).neg1
def nE (ρ : Nat) : Nat := eb 40 ρ
def nB (ρ : Nat) : Nat := nE ρ * (ρ + 1) + 9
def nE2 (ρ r : Nat) : Nat := eb (nB ρ) r
def nE3 (ρ r c : Nat) : Nat := eb (nE2 ρ r * (r + 1)) c
def numMid (ρ r c d : Nat) : Bool := decide ((nB ρ + 1) * 2 ^ r ≤ 60000000) && decide ((nE2 ρ r * (r + 1) + 1) * 2 ^ (ρ - r) ≤ 60000000) && decide (nE ρ * (ρ + 1) + 9 < 40000) &&
  (!decide (c ≤ ρ - r) || (decide (nE3 ρ r c < 30000000) && (!decide (d ≤ c) || decide ((nE3 ρ r c + nE ρ * (ρ + 1) + 3 + 1) * 2 ^ d ≤ 60000000))))
theorem num_all : (List.range 7).all (fun ρ => (List.range (ρ + 1)).all fun r => (List.range 7).all fun c => (List.range 5).all fun d => numMid ρ r c d) = true := by decide +kernel
theorem num_one {ρ r c d : Nat} (h1 : ρ < 7) (h2 : r < ρ + 1) (h3 : c < 7) (h4 : d < 5) : numMid ρ r c d = true := by
  have a := List.all_eq_true.mp num_all ρ (List.mem_range.mpr h1)
  have b := List.all_eq_true.mp a r (List.mem_range.mpr h2)
  have e := List.all_eq_true.mp b c (List.mem_range.mpr h3)
  exact List.all_eq_true.mp e d (List.mem_range.mpr h4)
theorem num_mid (ρ : Nat) (h1 : ρ < 7) (r : Nat) (h2 : r < ρ + 1) : (nB ρ + 1) * 2 ^ r ≤ 60000000 ∧ (nE2 ρ r * (r + 1) + 1) * 2 ^ (ρ - r) ≤ 60000000 ∧ nE ρ * (ρ + 1) + 9 < 40000 ∧
    ∀ c, c < ρ - r + 1 → nE3 ρ r c < 30000000 ∧ ∀ d, d < 5 → d ≤ c → (nE3 ρ r c + nE ρ * (ρ + 1) + 3 + 1) * 2 ^ d ≤ 60000000 := by
  have k := num_one (c := 0) (d := 0) h1 h2 (by omega) (by omega)
  simp only [numMid, Bool.and_eq_true, Bool.or_eq_true, decide_eq_true_eq, Bool.not_eq_true', decide_eq_false_iff_not] at k
  refine ⟨k.1.1.1, k.1.1.2, k.1.2, fun c hc => ⟨?_, fun d hd hdc => ?_⟩⟩
  · have k2 := num_one (c := c) (d := 0) h1 h2 (by omega) (by omega)
    simp only [numMid, Bool.and_eq_true, Bool.or_eq_true, decide_eq_true_eq, Bool.not_eq_true', decide_eq_false_iff_not] at k2
    rcases k2.2 with h | h
    · omega
    · exact h.1
  · have k2 := num_one (c := c) (d := d) h1 h2 (by omega) (by omega)
    simp only [numMid, Bool.and_eq_true, Bool.or_eq_true, decide_eq_true_eq, Bool.not_eq_true', decide_eq_false_iff_not] at k2
    rcases k2.2 with h | h
    · omega
    · rcases h.2 with h | h
      · exact absurd hdc h
      · exact h
theorem mix_take {W : Nat} {rows : List (List Rat)} (hw : ∀ r ∈ rows, r.length = W) (z : List (Rat × List Rat)) (hz : ∀ p ∈ z, p.2 ∈ rows) (f : List Rat) (hf : f.length = W) : (z.foldl mixPut f).length = W ∧ ∀ i, vQ (z.foldl mixPut f) i = vQ f i + sumL z fun p => p.1 * vQ p.2 i := by
  induction z generalizing f with
  | nil => exact ⟨hf, fun i => by rw [sumL_nil]; show vQ f i = _; grind⟩
  | cons p z ih =>
    obtain ⟨a1, a2⟩ := mixPut_spec (q := p.1) (r := p.2) hf (hw _ (hz p (List.mem_cons_self ..)))
    obtain ⟨b1, b2⟩ := ih (fun q hq => hz q (List.mem_cons_of_mem _ hq)) (mixPut f p) a1
    refine ⟨b1, fun i => ?_⟩
    rw [List.foldl_cons, b2, a2, sumL_cons]
    grind
theorem mid_A {n : Nat} {h : Hou} (H : HOk n h) (hm : (m_base_of h).length ≤ 6) (hd4 : (m_middle h).length ≤ 4) : A_middle h := by
  obtain ⟨b1, b2, b3⟩ := base_A H
  have nn := nn_le H.le
  have n0 := H.sq.pos
  -- the lot
  have lb : ∀ t ∈ baseT h, A_long_ints t ∧ RB 40 (m_long_ints t) ∧ (m_long_ints t).length = n * n := fun t ht => by
    obtain ⟨p, hp, rfl⟩ := List.mem_map.mp ht
    obtain ⟨s1, s2⟩ := b3 p hp
    obtain ⟨w1, w2⟩ := wholes_A one_ne one_le (b := 40) (by omega) (by omega) (s2.mono (show 8 * ((m_base_of h).length - 1) ≤ 40 by omega)).flat
    exact ⟨⟨by show p.2.flatten.length < 1000; rw [flatten_len s1]; omega, w1⟩, w2, (long_ints_spec s1).1⟩
  have lw : ∀ r ∈ (baseT h).map m_long_ints, r.length = n * n := fun r hr => by
    obtain ⟨t, ht, rfl⟩ := List.mem_map.mp hr
    exact (lb t ht).2.2
  have lr : ∀ r ∈ (baseT h).map m_long_ints, RB 40 r := fun r hr => by
    obtain ⟨t, ht, rfl⟩ := List.mem_map.mp hr
    exact (lb t ht).2.1
  obtain ⟨rd, _, il⟩ := int_spec lw
  have eR : m_int_steps ((baseT h).map m_long_ints) = m_int_lot h := rfl
  rw [eR] at rd il
  have ρ6 : (m_int_lot h).length ≤ 6 := by
    have : ((baseT h).map m_long_ints).length = (m_base_of h).length := by unfold baseT; rw [List.length_map, List.length_map]
    omega
  have bits : ∀ r ∈ m_int_lot h, RB (nE (m_int_lot h).length) r := int_bits lw lr
  generalize hρ : (m_int_lot h).length = ρ at ρ6 bits
  have ra : A_int_lot h := ⟨b1, fun t ht => (lb t ht).1, int_A lw lr (by
    rw [eR]
    exact Nat.le_trans (Nat.mul_le_mul_left _ (pow_mono (show _ ≤ 6 by omega))) (by decide))⟩
  have lq : lotQ h = m_told_rows (m_int_lot h) := rfl
  have lql : (lotQ h).length = ρ := by rw [lq]; unfold m_told_rows; rw [List.length_map, hρ]
  have nE40 : nE ρ * (ρ + 1) + 9 < 40000 := (num_mid ρ (by omega) 0 (by omega)).2.2.1
  have nEm : nE ρ ≤ nE ρ * (ρ + 1) := Nat.le_mul_of_pos_right _ (by omega)
  obtain ⟨P0, P1, P2⟩ := prodH_ok (fun r hr => (rd.wd r hr).2) bits
  rw [hρ] at P1 P2
  have eEr : nE ρ * (ρ + 1) = nE ρ * ρ + nE ρ := by rw [Nat.mul_add, Nat.mul_one]
  -- a told row, its table
  have told : ∀ u ∈ m_int_lot h, ∀ q ∈ toldRow u, CD (an u (hd u)) (nE ρ) q := fun u hu => told_CD (rd.wd u hu).2 (bits u hu)
  have tab : ∀ t ∈ lotT h, ∃ u ∈ m_int_lot h, t = m_short_of (toldRow u) (n : Int) ∧ Shp t n n ∧ EntT (an u (hd u)) (nE ρ) t := fun t ht => by
    obtain ⟨r, hr, rfl⟩ := List.mem_map.mp ht
    obtain ⟨u, hu, rfl⟩ := List.mem_map.mp hr
    have hl : (toldRow u).length = n * n := by rw [(told_spec u).1, (rd.wd u hu).1]
    obtain ⟨s1, s2⟩ := short_spec hl
    rw [H.sq.wd]
    refine ⟨u, hu, rfl, s1, entT_of s1 fun i j hi hj => ?_⟩
    have e : ent (m_short_of (toldRow u) (n : Int)) i j = aq (toldRow u) (i * n + j) := by
      have := congrFun (congrFun s2 ⟨i, hi⟩) ⟨j, hj⟩
      exact this
    rw [e]
    exact told u hu _ (aq_mem (by rw [hl]; exact ij_lt hi hj))
  have ap : ∀ l ∈ h.ls, ∀ t ∈ lotT h, ∃ u ∈ m_int_lot h, A_apart_of l t ∧ (m_apart_of l t).length = n * n ∧ ∀ q ∈ m_apart_of l t, CD (an u (hd u)) (nE ρ + 9) q := fun l hl t ht => by
    obtain ⟨u, hu, _, s1, s2⟩ := tab t ht
    have hp := (rd.wd u hu).2
    exact ⟨u, hu, apart_A n0 H.le (H.sq.ls l hl) s1 (H.ls l hl) (by omega) (bits u hu _) (by omega) s2⟩
  -- the lines
  have lcd : ∀ r ∈ midLines h, ∃ g : Int, g ≠ 0 ∧ g.natAbs ≤ 2 ^ (nE ρ * ρ) ∧ ∀ q ∈ r, CD g (nB ρ) q := fun r hr => by
    obtain ⟨l, hl, p, hp, rfl⟩ := mid_mem.mp hr
    refine ⟨prodH (m_int_lot h), P0, P1, fun q hq => ?_⟩
    obtain ⟨t, ht, rfl⟩ := List.mem_map.mp hq
    obtain ⟨u, hu, _, a2, a3⟩ := ap l hl t ht
    obtain ⟨m, em, lm⟩ := P2 u hu
    rw [em]
    have := (a3 _ (aq_mem (i := p) (by rw [a2, ← H.sq.wd]; exact hp))).over lm
    exact this.mono (by unfold nB; omega)
  have mw : ∀ r ∈ midLines h, r.length = ρ := fun r hr => by rw [mid_wd r hr, lql]
  obtain ⟨sr1, sr2⟩ := st_len mw
  generalize hr : (stI (midLines h)).length = r at sr1 sr2
  obtain ⟨N1, N2, _, N4⟩ := num_mid ρ (by omega) r (by omega)
  obtain ⟨s1, s2⟩ := steps_A (H := nE ρ * ρ) mw (by omega) lcd (by rw [hr]; exact N1)
  rw [hr] at s2
  obtain ⟨k1, c, k2, k3, k4, k5⟩ := kernel_A mw (by omega) s1 s2 (by rw [hr]; exact N2)
  rw [hr] at k2 k5
  generalize hK : stI (kerFound ((stI (midLines h)).map toldRow) ρ ρ) = K at k3 k4 k5
  have rdK : Red ρ K := by
    rw [← hK]
    exact (stI_spec (found_wd (stI_spec mw).1)).1
  have k6 : ∀ u ∈ K, RB (nE3 ρ r c) u := k5
  obtain ⟨N5, N6⟩ := N4 c (by omega)
  -- mixed rows
  have q1 := (lotQ_spec H.sq).1
  have ne := lotQ_ne H.sq
  have kl : m_kernel_of (midLines h) ((lotQ h).length : Int) = m_told_rows K := by rw [lql]; exact k3
  have ksp : ∀ ns ∈ m_told_rows K, ∃ g : Int, g ≠ 0 ∧ g.natAbs ≤ 2 ^ (nE3 ρ r c) ∧ ns.length = (lotQ h).length ∧ ∀ q ∈ ns, CD g (nE3 ρ r c) q := fun ns hns => by
    obtain ⟨u, hu, rfl⟩ := List.mem_map.mp hns
    have hp := (rdK.wd u hu).2
    exact ⟨an u (hd u), by omega, k6 u hu _, by rw [(told_spec u).1, (rdK.wd u hu).1, lql], told_CD hp (k6 u hu)⟩
  have term : ∀ (g : Int) (ns : List Rat), (∀ q ∈ ns, CD g (nE3 ρ r c) q) → ∀ p ∈ ns.zip (lotQ h), p.2 ∈ lotQ h ∧ CD g (nE3 ρ r c) p.1 ∧ ∃ u ∈ m_int_lot h, (∀ x ∈ p.2, CD (an u (hd u)) (nE ρ) x) := fun g ns hg p hp => by
    have hz := List.of_mem_zip hp
    obtain ⟨u, hu, e⟩ := List.mem_map.mp hz.2
    exact ⟨hz.2, hg _ hz.1, u, hu, fun x hx => told u hu x (by rw [e]; exact hx)⟩
  have vterm : ∀ (g : Int) (ns : List Rat), (∀ q ∈ ns, CD g (nE3 ρ r c) q) → ∀ p ∈ ns.zip (lotQ h), ∀ i, CD (g * prodH (m_int_lot h)) (nE3 ρ r c + nE ρ * (ρ + 1)) (p.1 * vQ p.2 i) := fun g ns hg p hp i => by
    obtain ⟨t1, t2, u, hu, t3⟩ := term g ns hg p hp
    obtain ⟨m, em, lm⟩ := P2 u hu
    have hx : CD (an u (hd u)) (nE ρ) (vQ p.2 i) := by
      by_cases hi : i < p.2.length
      · exact t3 _ (aq_mem hi)
      · show CD _ _ (aq p.2 i)
        rw [aq_ge (by omega)]
        exact cd_zero _ _
    rw [em]
    exact (t2.mul (hx.over lm)).mono (by omega)
  have part : ∀ (g : Int) (ns : List Rat), ns.length = (lotQ h).length → (∀ q ∈ ns, CD g (nE3 ρ r c) q) → ∀ k, ((((ns.zip (lotQ h)).take k).foldl mixPut (List.replicate (n * n) 0)).length = n * n ∧ ∀ i, CD (g * prodH (m_int_lot h)) (nE3 ρ r c + nE ρ * (ρ + 1) + 3) (vQ (((ns.zip (lotQ h)).take k).foldl mixPut (List.replicate (n * n) 0)) i)) := fun g ns hl hg k => by
    obtain ⟨m1, m2⟩ := mix_take q1 ((ns.zip (lotQ h)).take k) (fun p hp => (term g ns hg p (List.mem_of_mem_take hp)).1) (List.replicate (n * n) 0) (List.length_replicate ..)
    refine ⟨m1, fun i => ?_⟩
    rw [m2]
    have z : vQ (List.replicate (n * n) 0) i = 0 := by
      unfold vQ aq
      rw [List.getElem?_replicate]
      split <;> rfl
    rw [z, show ∀ x : Rat, 0 + x = x from fun x => by grind]
    refine sum_CD (fun p hp => vterm g ns hg p (List.mem_of_mem_take hp) i) ?_
    rw [List.length_take, List.length_zip]
    have : (2 : Nat) ^ 3 = 8 := rfl
    omega
  have wdq : wideQ (lotQ h) = n * n := by
    cases e : lotQ h with
    | nil => exact absurd e ne
    | cons r l => exact q1 r (by rw [e]; exact List.mem_cons_self ..)
  have gp : ∀ g : Int, g ≠ 0 → g.natAbs ≤ 2 ^ (nE3 ρ r c) → g * prodH (m_int_lot h) ≠ 0 ∧ (g * prodH (m_int_lot h)).natAbs ≤ 2 ^ (nE3 ρ r c + nE ρ * ρ) := fun g g0 hg => by
    refine ⟨Int.mul_ne_zero g0 P0, ?_⟩
    rw [Int.natAbs_mul, Nat.pow_add]
    exact Nat.mul_le_mul hg P1
  have mxA : ∀ ns ∈ m_told_rows K, A_mixed_row ns (lotQ h) := fun ns hns => by
    obtain ⟨g, g0, hg, hl, hq⟩ := ksp ns hns
    obtain ⟨G0, G1⟩ := gp g g0 hg
    refine ⟨ne, fun k p hp _ x hx => ?_⟩
    have hp2 : p ∈ ns.zip (lotQ h) := List.mem_of_getElem? hp
    rw [wdq] at hx
    obtain ⟨m1, m2⟩ := part g ns hl hq k
    have hz := List.of_mem_zip hx
    obtain ⟨i, hi, ei⟩ := mem_aq hz.1
    obtain ⟨j, hj, ej⟩ := mem_aq hz.2
    obtain ⟨t1, t2, u, hu, t3⟩ := term g ns hq p hp2
    have hup := (rd.wd u hu).2
    refine ⟨?_, cd_sm t2 g0 hg (by omega) (by omega), cd_sm (t3 _ hz.2) (h := an u (hd u)) (by omega) (bits u hu _) (by omega) (by omega), ?_⟩
    · rw [← ei]
      exact cd_sm (m2 i) G0 G1 (by omega) (by omega)
    · rw [← ej]
      exact cd_sm (vterm g ns hq p hp2 j) G0 G1 (by omega) (by omega)
  have mf : midFound h = (m_told_rows K).map fun ns => m_mixed_row ns (lotQ h) := by
    show (m_kernel_of (midLines h) ((lotQ h).length : Int)).map (fun ns => m_mixed_row ns (lotQ h)) = _
    rw [kl]
  have fw := midFound_wd H.sq
  have fl : (stI (midFound h)).length ≤ c := by
    have := (st_len fw).1
    have e : (midFound h).length = c := by
      rw [mf, List.length_map]
      unfold m_told_rows
      rw [List.length_map, k4]
    omega
  have dl : (stI (midFound h)).length ≤ 4 := by
    have : (m_middle h).length = (stI (midFound h)).length := by
      show ((m_steps_of (midFound h)).map fun r => m_short_of r (h.n : Int)).length = _
      rw [List.length_map, stI_len]
    omega
  have fin := (steps_A (W := n * n) (B := nE3 ρ r c + nE ρ * (ρ + 1) + 3) (H := nE3 ρ r c + nE ρ * ρ) fw (by omega) (fun w hw => by
    rw [mf] at hw
    obtain ⟨ns, hns, rfl⟩ := List.mem_map.mp hw
    obtain ⟨g, g0, hg, hl, hq⟩ := ksp ns hns
    obtain ⟨G0, G1⟩ := gp g g0 hg
    refine ⟨_, G0, G1, fun q hq2 => ?_⟩
    obtain ⟨i, hi, ei⟩ := mem_aq hq2
    rw [← ei]
    have := (part g ns hl hq (ns.zip (lotQ h)).length).2 i
    rw [List.take_length] at this
    unfold m_mixed_row
    rw [wdq]
    exact this) (N6 _ (by omega) fl)).1
  show A_middle_of h
  refine ⟨by rw [H.sq.wd]; exact H.le, by have := H.many; omega, ra, told_A rd, fun l hl t ht => ?_, ?_, ?_, fin⟩
  · obtain ⟨u, hu, a1, a2, _⟩ := ap l hl t ht
    rw [H.sq.wd]
    exact ⟨a1, a2⟩
  · rw [← lq, lql]
    exact k1
  · rw [← lq, kl]
    exact mxA
end PL
set_option Elab.async false
set_option linter.all false
set_option maxRecDepth 100000
/-! Houses of the law, a corner more, the partner that is not. -/
namespace PL
open TW LA
open L2 hiding V
theorem sqB_shp {t : ITab} {n b : Nat} (h : SqB t n b) : Shp t n n := ⟨h.1, fun r hr => (h.2 r hr).1⟩
theorem ratI_ent {t : ITab} {n b c : Nat} (h : SqB t n b) (hc : b ≤ 2 ^ c) : EntT 1 c (ratI t) := by
  rw [rat_eq]
  intro r hr q hq
  obtain ⟨u, hu, rfl⟩ := List.mem_map.mp hr
  obtain ⟨x, hx, rfl⟩ := List.mem_map.mp hq
  exact ⟨x, by grind, Nat.le_trans ((h.2 u hu).2 x hx) hc⟩
theorem two_sqI {ls : List ITab} {n b : Nat} (h : TwoSq ls n b) (hn : 0 < n) : SqI n ls := ⟨hn, (fun e => by have := h.1; rw [e] at this; cases this), fun t ht => sqB_shp (h.2 t ht)⟩
theorem hou_ok {ls : List ITab} {n b : Nat} (h : TwoSq ls n b) (hn : 0 < n) (h4 : n ≤ 4) (hb : b ≤ 64) : HOk n (houOf ls) := by
  have e := (hou_eq ls).1
  refine ⟨hou_sq (two_sqI h hn), h4, fun t ht => ?_, fun z => ?_, ?_⟩
  · rw [e] at ht
    obtain ⟨u, hu, rfl⟩ := List.mem_map.mp ht
    exact ratI_ent (h.2 u hu) hb
  · rw [e] at z
    have := h.1
    rw [List.map_eq_nil_iff.mp z] at this
    cases this
  · rw [e, List.length_map, h.1]
    decide
theorem asI_mem {ls : List ITab} {v : NTab} (h : v ∈ asI ls) : ∃ t ∈ ls, v = t.map fun r => r.map NumV.i := by
  obtain ⟨t, ht, e⟩ := List.mem_map.mp h
  exact ⟨t, ht, e.symm⟩
theorem letters_A {ls : List ITab} {n b : Nat} (h : TwoSq ls n b) (hn : 0 < n) (h4 : n ≤ 4) : A_letters_in (asI ls) := by
  have tl : ∀ v ∈ asI ls, v.length = n := fun v hv => by
    obtain ⟨t, ht, rfl⟩ := asI_mem hv
    rw [List.length_map, (h.2 t ht).1]
  have al_ : (asI ls).length = 2 := by unfold asI; rw [List.length_map, h.1]
  refine ⟨by omega, by omega, fun v hv => ?_, fun v hv => ?_⟩
  · have := tl v hv
    refine ⟨by omega, by omega, fun r hr => ?_⟩
    obtain ⟨t, ht, rfl⟩ := asI_mem hv
    obtain ⟨q, hq, rfl⟩ := List.mem_map.mp hr
    rw [List.length_map, ((h.2 t ht).2 q hq).1, this]
  · rw [tl v hv]
    cases e : asI ls with
    | nil => rw [e] at hv; cases hv
    | cons w l => exact (tl w (by rw [e]; exact List.mem_cons_self ..)).symm
/-! a corner more -/
def moreI (ls : List ITab) : List ITab := [beside0 (atL ls 0) [[firstNum ls, 1], [0, firstNum ls]], beside0 (atL ls 1) [[0, 0], [0, 0]]]
theorem ratN (t : Tab) : ratT (t.map fun r => r.map NumV.q) = t := by
  unfold ratT
  rw [List.map_map]
  refine (List.map_congr_left fun r _ => ?_).trans (List.map_id t)
  show (r.map NumV.q).map m_ratio_of = id r
  rw [List.map_map]
  exact (List.map_congr_left fun x _ => rfl).trans (List.map_id r)
theorem asN_ls (ls : List Tab) : (m_house_of ls).ls = ls ∧ (m_house_of ls).n = (ls.headD []).length := by
  unfold m_house_of m_House asN
  refine ⟨?_, ?_⟩
  · show (ls.map _).map ratT = ls
    rw [List.map_map]
    exact (List.map_congr_left fun t _ => ratN t).trans (List.map_id ls)
  · cases ls with
    | nil => rfl
    | cons t l => show (t.map _).length = _; rw [List.length_map]; rfl
theorem on_line_rat (t o : ITab) : m_on_line (ratI t) (ratI o) = ratI (beside0 t o) := by
  rw [rat_eq, rat_eq, rat_eq]
  unfold m_on_line beside0
  rw [List.map_append, List.map_map, List.map_map, List.map_map, List.map_map, List.length_map, List.length_map]
  congr 1
  · refine List.map_congr_left fun r _ => ?_
    show r.map _ ++ List.replicate _ (0 : Rat) = (r ++ List.replicate _ (0 : Int)).map _
    rw [List.map_append, List.map_replicate]
    rfl
  · refine List.map_congr_left fun r _ => ?_
    show List.replicate _ (0 : Rat) ++ r.map _ = (List.replicate _ (0 : Int) ++ r).map _
    rw [List.map_append, List.map_replicate]
    rfl
theorem more_eq (ls : List ITab) : moreOf ls = houOf (moreI ls) := by
  have e1 : sideLs (houOf [atL ls 0, atL ls 1]) (houOf (cornerLs (firstNum ls))) = (moreI ls).map ratI := by
    unfold sideLs cornerLs
    rw [(hou_eq _).1, (hou_eq _).1]
    show [m_on_line (ratI (atL ls 0)) (ratI _), m_on_line (ratI (atL ls 1)) (ratI _)] = _
    rw [on_line_rat, on_line_rat]
    rfl
  have h1 : (moreOf ls).ls = (houOf (moreI ls)).ls := by
    unfold moreOf m_side
    rw [e1, (asN_ls _).1, (hou_eq _).1]
  have h2 : (moreOf ls).n = (houOf (moreI ls)).n := by
    unfold moreOf m_side
    rw [e1, (asN_ls _).2, (hou_eq _).2]
    show (ratI (beside0 _ _)).length = (beside0 _ _).length
    rw [rat_eq, List.length_map]
  generalize moreOf ls = a at h1 h2
  generalize houOf (moreI ls) = b at h1 h2
  cases a
  cases b
  simp only at h1 h2
  rw [h1, h2]
theorem atL_two {ls : List ITab} {n b : Nat} (h : TwoSq ls n b) : SqB (atL ls 0) n b ∧ SqB (atL ls 1) n b := by
  obtain ⟨h1, h2⟩ := h
  match ls, h1 with
  | [a, b], _ => exact ⟨h2 a (List.mem_cons_self ..), h2 b (List.mem_cons_of_mem _ (List.mem_cons_self ..))⟩
theorem first_le {ls : List ITab} {n b : Nat} (h : TwoSq ls n b) : (firstNum ls).natAbs ≤ b := by
  have h0 := (atL_two h).1
  unfold firstNum
  by_cases hl : 0 < (atL (atL ls 0) 0).length
  · have hm : atL (atL ls 0) 0 ∈ atL ls 0 := by
      have hlen : 0 < (atL ls 0).length := by
        apply Classical.byContradiction
        intro z
        have : atL ls 0 = [] := List.eq_nil_of_length_eq_zero (by omega)
        rw [this] at hl
        simp [atL] at hl
      exact atL_mem ⟨by decide, by simpa using hlen⟩
    exact (h0.2 _ hm).2 _ (at0_mem ⟨by decide, by simpa using hl⟩)
  · have : atL (atL ls 0) 0 = [] := List.eq_nil_of_length_eq_zero (by omega)
    rw [this]
    exact Nat.zero_le _
theorem corner_sq {x : Int} {b : Nat} (hx : x.natAbs ≤ b) (hb : 1 ≤ b) : SqB [[x, 1], [0, x]] 2 b ∧ SqB [[0, 0], [0, 0]] 2 b := by
  refine ⟨⟨rfl, fun r hr => ?_⟩, ⟨rfl, fun r hr => ?_⟩⟩
  · simp at hr
    rcases hr with rfl | rfl
    · refine ⟨rfl, fun y hy => ?_⟩
      simp at hy
      rcases hy with rfl | rfl
      · exact hx
      · exact hb
    · refine ⟨rfl, fun y hy => ?_⟩
      simp at hy
      rcases hy with rfl | rfl
      · exact Nat.zero_le _
      · exact hx
  · simp at hr
    subst hr
    refine ⟨rfl, fun y hy => ?_⟩
    simp at hy
    subst hy
    exact Nat.zero_le _
theorem more_two {ls : List ITab} {n b : Nat} (h : TwoSq ls n b) (hb : 1 ≤ b) : TwoSq (moreI ls) (n + 2) b := by
  obtain ⟨a1, a2⟩ := atL_two h
  obtain ⟨c1, c2⟩ := corner_sq (first_le h) hb
  refine ⟨rfl, fun t ht => ?_⟩
  unfold moreI at ht
  simp at ht
  rcases ht with rfl | rfl
  · exact beside_sq a1 c1
  · exact beside_sq a2 c2
theorem cor_two {ls : List ITab} {n b : Nat} (h : TwoSq ls n b) (hb : 1 ≤ b) : TwoSq (cornerLs (firstNum ls)) 2 b := by
  obtain ⟨c1, c2⟩ := corner_sq (first_le h) hb
  refine ⟨rfl, fun t ht => ?_⟩
  unfold cornerLs at ht
  simp at ht
  rcases ht with rfl | rfl
  · exact c1
  · exact c2
theorem pair_two {ls : List ITab} {n b : Nat} (h : TwoSq ls n b) : TwoSq [atL ls 0, atL ls 1] n b := by
  obtain ⟨a1, a2⟩ := atL_two h
  refine ⟨rfl, fun t ht => ?_⟩
  simp at ht
  rcases ht with rfl | rfl
  · exact a1
  · exact a2
theorem asN_mem {ls : List Tab} {v : NTab} (h : v ∈ asN ls) : ∃ t ∈ ls, v = t.map fun r => r.map NumV.q := by
  obtain ⟨t, ht, e⟩ := List.mem_map.mp h
  exact ⟨t, ht, e.symm⟩
theorem houseOf_A {ls : List Tab} {n : Nat} (hl : ls.length = 2) (hs : ∀ t ∈ ls, Shp t n n) (hn : 0 < n) (h4 : n ≤ 4) : A_house_of ls := by
  have tl : ∀ v ∈ asN ls, v.length = n := fun v hv => by
    obtain ⟨t, ht, rfl⟩ := asN_mem hv
    rw [List.length_map, (hs t ht).1]
  have al_ : (asN ls).length = 2 := by unfold asN; rw [List.length_map, hl]
  show A_letters_in (asN ls)
  refine ⟨by omega, by omega, fun v hv => ?_, fun v hv => ?_⟩
  · have := tl v hv
    refine ⟨by omega, by omega, fun r hr => ?_⟩
    obtain ⟨t, ht, rfl⟩ := asN_mem hv
    obtain ⟨q, hq, rfl⟩ := List.mem_map.mp hr
    rw [List.length_map, (hs t ht).2 q hq, this]
  · rw [tl v hv]
    cases e : asN ls with
    | nil => rw [e] at hv; cases hv
    | cons w l => exact (tl w (by rw [e]; exact List.mem_cons_self ..)).symm
theorem side_A {ls : List ITab} {n b : Nat} (h : TwoSq ls n b) (hn : 0 < n) (h2 : n ≤ 2) (hb : 1 ≤ b) : A_side (houOf [atL ls 0, atL ls 1]) (houOf (cornerLs (firstNum ls))) := by
  have p := hou_sq (two_sqI (pair_two h) hn)
  have q := hou_sq (two_sqI (cor_two h hb) (by decide))
  have e1 : sideLs (houOf [atL ls 0, atL ls 1]) (houOf (cornerLs (firstNum ls))) = (moreI ls).map ratI := by
    unfold sideLs cornerLs
    rw [(hou_eq _).1, (hou_eq _).1]
    show [m_on_line (ratI (atL ls 0)) (ratI _), m_on_line (ratI (atL ls 1)) (ratI _)] = _
    rw [on_line_rat, on_line_rat]
    rfl
  refine ⟨?_, ?_, fun z hz => ?_, ?_⟩
  · show (houOf _).ls.length = (houOf _).ls.length
    rw [(hou_eq _).1, (hou_eq _).1, List.length_map, List.length_map]
    rfl
  · rw [p.wd, q.wd]
    omega
  · have m := List.of_mem_zip hz
    have s1 := p.ls _ m.1
    have s2 := q.ls _ m.2
    exact ⟨by rw [s1.1]; omega, by rw [s2.1]; decide, fun r hr => by rw [s1.2 r hr]; omega, fun r hr => by rw [s2.2 r hr]; decide⟩
  · rw [e1]
    refine houseOf_A (n := n + 2) rfl (fun t ht => ?_) (by omega) (by omega)
    obtain ⟨u, hu, rfl⟩ := List.mem_map.mp ht
    exact (rat_shp (sqB_shp ((more_two h hb).2 u hu))).1
/-! the partner: all its steps -/
def unitE (n : Nat) : List Rat := List.replicate (n + 1) 0 ++ [1]
def roomE (n : Nat) : List (List Rat) := [unitE n]
theorem room_eq (n : Nat) : ratT (lastRow n) = roomE n := by
  unfold lastRow ratT roomE unitE
  show [((List.replicate (n + 1) (0 : Int) ++ [1]).map NumV.i).map m_ratio_of] = _
  rw [List.map_map, List.map_append, List.map_replicate]
  rfl
theorem unit_CD (n : Nat) : ∀ q ∈ unitE n, CD 1 0 q := fun q hq => by
  unfold unitE at hq
  rcases List.mem_append.mp hq with h | h
  · rw [(List.mem_replicate.mp h).2]
    exact cd_zero _ _
  · rw [List.mem_singleton] at h
    rw [h]
    exact ⟨1, by grind, by decide⟩
theorem unit_len (n : Nat) : (unitE n).length = n + 2 := by unfold unitE; rw [List.length_append, List.length_replicate]; rfl
theorem set_CD {h : Int} {b : Nat} {row : List Rat} (k : ∀ q ∈ row, CD h b q) (i : Nat) {x : Rat} (hx : CD h b x) : ∀ q ∈ row.set i x, CD h b q := fun q hq => by
  rcases List.mem_or_eq_of_mem_set hq with h1 | h1
  · exact k q h1
  · rw [h1]; exact hx
theorem fold_set {h : Int} {b L : Nat} (f : Int → Nat) (g : Int → Rat) (hg : ∀ a, CD h b (g a)) : ∀ (as : List Int) (row : List Rat), row.length = L → (∀ q ∈ row, CD h b q) → (as.foldl (fun row a => row.set (f a) (g a)) row).length = L ∧ ∀ q ∈ as.foldl (fun row a => row.set (f a) (g a)) row, CD h b q := fun as => by
  induction as with
  | nil => exact fun row hl k => ⟨hl, k⟩
  | cons a as ih => exact fun row hl k => ih _ (by rw [List.length_set, hl]) (set_CD k _ (hg a))
theorem rep_CD (h : Int) (b m : Nat) : ∀ q ∈ List.replicate m (0 : Rat), CD h b q := fun q hq => by
  rw [(List.mem_replicate.mp hq).2]
  exact cd_zero _ _
theorem atQ_row {h : Int} {b : Nat} {r : List Rat} (k : ∀ q ∈ r, CD h b q) (i : Int) : CD h b (atQ r i) := by
  unfold atQ
  cases e : r[i.toNat]? with
  | none => exact cd_zero _ _
  | some q => exact k q (List.mem_of_getElem? e)
theorem CD.sub {h : Int} {b : Nat} {p q : Rat} (k : CD h b p) (l : CD h b q) : CD h (b + 1) (p - q) := by
  have := k.add l.neg1
  rw [show p + -1 * q = p - q by grind] at this
  exact this
section
variable {n : Nat} {h : Hou}
theorem led_A (H : HOk (n + 2) h) {l : Tab} (hl : l ∈ h.ls) : A_led_by (unitE n) l ∧ (m_led_by (unitE n) l).length = n + 2 ∧ ∀ q ∈ m_led_by (unitE n) l, CD 1 8 q := by
  have h4 := H.le
  have nn : (n + 2) * (n + 2) ≤ 16 := nn_le h4
  have s1 : Shp [unitE n] 1 (n + 2) := ⟨rfl, fun r hr => by rw [List.mem_singleton] at hr; rw [hr, unit_len]⟩
  have s2 := H.sq.ls l hl
  have k1 : EntT 1 0 [unitE n] := fun r hr => by rw [List.mem_singleton] at hr; rw [hr]; exact unit_CD n
  obtain ⟨p1, p2⟩ := prod_A (m := 2) s1 s2 (by omega) (by omega) (by omega) (by omega) (by omega) (by omega) one_ne one_ne one_le one_le (by omega) (by omega) (by omega) (by omega) k1 (H.ls l hl)
  have p3 := (prod_spec s1 s2 (by omega) (by omega)).1
  refine ⟨p1, ?_, ?_⟩
  · have hm : al (m_product_of [unitE n] l) 0 ∈ m_product_of [unitE n] l := al_mem (by rw [p3.1]; omega)
    exact p3.2 _ hm
  · have hm : al (m_product_of [unitE n] l) 0 ∈ m_product_of [unitE n] l := al_mem (by rw [p3.1]; omega)
    exact fun q hq => (p2 _ hm q hq).mono (by omega)
variable (hh : m_heads_of (roomE n) = [((n + 1 : Nat) : Int)])
include hh
theorem numbers_eq (row : List Rat) : m_numbers_in (roomE n) row = [aq row (n + 1)] := by
  unfold m_numbers_in
  rw [hh]
  rfl
theorem numbers_A {row : List Rat} (hl : row.length = n + 2) : A_numbers_in (roomE n) row := by
  refine ⟨fun r hr => ?_, fun p hp => ?_⟩
  · unfold roomE at hr
    rw [List.mem_singleton] at hr
    rw [hr]
    exact ⟨1, by unfold unitE; simp, by decide⟩
  · rw [hh, List.mem_singleton] at hp
    rw [hp]
    exact inR_nat (by omega)
theorem held_A {row : List Rat} (hl : row.length = n + 2) (k : ∀ q ∈ row, CD 1 8 q) : A_held (roomE n) row := by
  refine ⟨numbers_A hh hl, fun m p hp _ x hx => ?_⟩
  rw [numbers_eq hh] at hp hx
  have e : ([aq row (n + 1)].zip (roomE n)) = [(aq row (n + 1), unitE n)] := rfl
  rw [e] at hp hx
  cases m with
  | succ m => cases hp
  | zero =>
    have ep : p = (aq row (n + 1), unitE n) := (Option.some.inj hp).symm
    rw [ep] at hx ⊢
    have hz := List.of_mem_zip hx
    have k1 : CD 1 8 x.1 := k _ hz.1
    have k2 : CD 1 0 x.2 := unit_CD n _ hz.2
    have k3 : CD 1 8 (aq row (n + 1)) := k _ (aq_mem (by omega))
    have k4 : CD 1 8 (aq row (n + 1) * x.2) := k3.mul k2
    exact ⟨cd1_sm k1 (by omega), cd1_sm k3 (by omega), cd1_sm k2 (by omega), cd1_sm k4 (by omega)⟩
theorem cut_ls (H : HOk (n + 2) h) : (m_cut_of h (roomE n)).ls = h.ls.map fun l => [[aq (m_led_by (unitE n) l) (n + 1)]] := by
  unfold m_cut_of
  rw [(asN_ls _).1]
  unfold cutLs
  refine List.map_congr_left fun l _ => ?_
  show [m_numbers_in (roomE n) (m_led_by (unitE n) l)] = _
  rw [numbers_eq hh]
theorem cut_A (H : HOk (n + 2) h) (h2 : h.ls.length = 2) : A_cut_of h (roomE n) := by
  refine ⟨fun l hl s hs => ?_, houseOf_A (n := 1) (by unfold cutLs; rw [List.length_map, h2]) (fun t ht => ?_) (by decide) (by decide)⟩
  · unfold roomE at hs
    rw [List.mem_singleton] at hs
    subst hs
    obtain ⟨l1, l2, l3⟩ := led_A H hl
    exact ⟨l1, numbers_A hh l2⟩
  · unfold cutLs at ht
    obtain ⟨l, hl, rfl⟩ := List.mem_map.mp ht
    refine ⟨rfl, fun r hr => ?_⟩
    have hr2 : r = m_numbers_in (roomE n) (m_led_by (unitE n) l) := by
      have : r ∈ [m_numbers_in (roomE n) (m_led_by (unitE n) l)] := hr
      rw [List.mem_singleton] at this
      exact this
    rw [hr2, numbers_eq hh]
    rfl
theorem evenOne_ok (H : HOk (n + 2) h) {l : Tab} (hl : l ∈ h.ls) (line place : Int) : (evenOne l 1 line place).length = n + 2 ∧ ∀ q ∈ evenOne l 1 line place, CD 1 8 q := by
  unfold evenOne
  have s := H.sq.ls l hl
  obtain ⟨f1, f2⟩ := fold_set (h := 1) (b := 8) (L := n + 2) (fun a => (a * ((1 : Nat) : Int) + place).toNat) (fun a => atQ (atL l line) a) (fun a => (atQ_CD (H.ls l hl) line a).mono (by omega)) (upto l.length) (List.replicate (l.length * 1) 0) (by rw [List.length_replicate, s.1]; omega) (rep_CD _ _ _)
  exact ⟨f1, f2⟩
theorem even_A (H : HOk (n + 2) h) {l : Tab} (hl : l ∈ h.ls) : A_even_rows l [[aq (m_led_by (unitE n) l) (n + 1)]] ∧ ∀ r ∈ m_even_rows l [[aq (m_led_by (unitE n) l) (n + 1)]], r.length = n + 3 ∧ ∀ q ∈ r, CD 1 9 q := by
  have s := H.sq.ls l hl
  obtain ⟨l1, l2, l3⟩ := led_A H hl
  have k3 : CD 1 8 (aq (m_led_by (unitE n) l) (n + 1)) := l3 _ (aq_mem (by omega))
  have ks : EntT 1 8 [[aq (m_led_by (unitE n) l) (n + 1)]] := fun r hr q hq => by
    rw [List.mem_singleton] at hr
    rw [hr, List.mem_singleton] at hq
    rw [hq]
    exact k3
  have h4 := H.le
  refine ⟨⟨by rw [s.1]; omega, (show 1 ≤ 10 by decide), ⟨rfl, fun r hr => by rw [s.1]; exact s.2 r hr⟩, ⟨rfl, fun r hr => by rw [List.mem_singleton] at hr; rw [hr]; rfl⟩, fun line place m a _ _ hm => ?_⟩, fun r hr => ?_⟩
  · have e : upto ([[aq (m_led_by (unitE n) l) (n + 1)]] : Tab).length = [0] := rfl
    rw [e] at hm ⊢
    cases m with
    | succ m => cases hm
    | zero => exact ⟨cd1_sm (atQ_row (evenOne_ok hh H hl line place).2 _) (by omega), cd1_sm (atQ_CD ks a place) (by omega)⟩
  · unfold m_even_rows at hr
    obtain ⟨line, _, hr⟩ := List.mem_flatMap.mp hr
    unfold evenLines at hr
    obtain ⟨place, _, rfl⟩ := List.mem_map.mp hr
    obtain ⟨o1, o2⟩ := evenOne_ok hh H hl line place
    have e : evenRow l [[aq (m_led_by (unitE n) l) (n + 1)]] line place = (evenOne l 1 line place).set (line * ((1 : Nat) : Int) + 0).toNat (atQ (evenOne l 1 line place) (line * ((1 : Nat) : Int) + 0) - atQ (atL [[aq (m_led_by (unitE n) l) (n + 1)]] 0) place) := rfl
    rw [e]
    refine ⟨by rw [List.length_append, List.length_set, o1]; rfl, fun q hq => ?_⟩
    rcases List.mem_append.mp hq with h1 | h1
    · refine set_CD (fun q hq => (o2 q hq).mono (by omega)) _ ((atQ_row o2 _).sub (atQ_CD ks 0 place)) q h1
    · rw [List.mem_singleton] at h1
      rw [h1]
      exact cd_zero _ _
theorem held_rows_ok : ∀ r ∈ m_held_rows (roomE n) ((n + 2 : Nat) : Int), r.length = n + 3 ∧ ∀ q ∈ r, CD 1 9 q := fun r hr => by
  unfold m_held_rows at hr
  obtain ⟨p, hp, hr⟩ := List.mem_flatMap.mp hr
  obtain ⟨place, _, rfl⟩ := List.mem_map.mp hr
  have hp2 : p.2 = unitE n := by
    have := enum_mem hp
    unfold roomE at this
    rw [List.mem_singleton] at this
    exact this
  unfold heldLine heldRow
  rw [hp2, Int.toNat_natCast]
  obtain ⟨f1, f2⟩ := fold_set (h := 1) (b := 9) (L := n + 2) (fun a => (a * (((roomE n).length : Nat) : Int) + place).toNat) (fun a => atQ (unitE n) a) (fun a => (atQ_row (unit_CD n) a).mono (by omega)) (upto (n + 2)) (List.replicate ((n + 2) * (roomE n).length) 0) (by rw [List.length_replicate]; show (n + 2) * 1 = _; omega) (rep_CD _ _ _)
  refine ⟨by rw [List.length_append, f1]; rfl, fun q hq => ?_⟩
  rcases List.mem_append.mp hq with h1 | h1
  · exact f2 q h1
  · rw [List.mem_singleton] at h1
    rw [h1]
    split
    · exact ⟨1, by grind, by decide⟩
    · exact cd_zero _ _
theorem onto_ok (H : HOk (n + 2) h) : ∀ r ∈ ontoRows h (roomE n), r.length = n + 3 ∧ ∀ q ∈ r, CD 1 9 q := fun r hr => by
  unfold ontoRows at hr
  rcases List.mem_append.mp hr with h1 | h1
  · rw [H.sq.wd] at h1
    exact held_rows_ok hh r h1
  · obtain ⟨p, hp, hr⟩ := List.mem_flatMap.mp h1
    rw [cut_ls hh H] at hp
    obtain ⟨i, hi, e⟩ := List.mem_iff_getElem.mp hp
    rw [List.getElem_zip, List.getElem_map] at e
    have hi2 : i < h.ls.length := by simp at hi; exact hi
    rw [← e] at hr
    exact (even_A hh H (List.getElem_mem hi2)).2 r hr
theorem partner_A (H : HOk (n + 2) h) (h2 : h.ls.length = 2) (e1 : m_steps_of (roomE n) = roomE n) (e2 : ∀ l ∈ h.ls, m_held (roomE n) (m_led_by (unitE n) l) = true)
    (e3 : m_solution_of ((ontoRows h (roomE n)).map fun r => r.dropLast) ((ontoRows h (roomE n)).map lastQ) = none) : A_partner h (lastRow n) := by
  have h4 := H.le
  have onto := onto_ok hh H
  unfold A_partner A_room_in
  rw [room_eq]
  have hs : A_steps_of (roomE n) := (steps_A (W := n + 2) (B := 0) (H := 0) (fun r hr => by unfold roomE at hr; rw [List.mem_singleton] at hr; rw [hr, unit_len]) (by omega) (fun r hr => ⟨1, one_ne, one_le, by unfold roomE at hr; rw [List.mem_singleton] at hr; rw [hr]; exact unit_CD n⟩) (by
    have : (stI (roomE n)).length = 1 := by rw [← stI_len, e1]; rfl
    rw [this]
    decide)).1
  have ne : ontoRows h (roomE n) ≠ [] := by
    unfold ontoRows m_held_rows
    intro z
    have := (List.append_eq_nil_iff.mp z).1
    rw [List.flatMap_eq_nil_iff] at this
    have h0 := this ((0 : Int), unitE n) (by unfold enumL roomE; simp)
    exact absurd h0 (by show ([heldLine _ _ _ 0] : List (List Rat)) ≠ []; exact List.cons_ne_nil _ _)
  have dl : ∀ r ∈ (ontoRows h (roomE n)).map (fun r => r.dropLast), r.length = n + 2 := fun r hr => by
    obtain ⟨q, hq, rfl⟩ := List.mem_map.mp hr
    rw [List.length_dropLast, (onto q hq).1]
    omega
  have wq : wideQ ((ontoRows h (roomE n)).map fun r => r.dropLast) = n + 2 := by
    cases e : (ontoRows h (roomE n)).map fun r => r.dropLast with
    | nil => exact absurd (List.map_eq_nil_iff.mp e) ne
    | cons r l => exact dl r (by rw [e]; exact List.mem_cons_self ..)
  have sr : ∀ r ∈ sideRows ((ontoRows h (roomE n)).map fun r => r.dropLast) ((ontoRows h (roomE n)).map lastQ), r.length = n + 3 ∧ ∀ q ∈ r, CD 1 9 q := fun r hr => by
    unfold sideRows at hr
    obtain ⟨p, hp, rfl⟩ := List.mem_map.mp hr
    have hz := List.of_mem_zip hp
    refine ⟨by rw [List.length_append, dl _ hz.1]; rfl, fun q hq => ?_⟩
    rcases List.mem_append.mp hq with h1 | h1
    · obtain ⟨u, hu, eu⟩ := List.mem_map.mp hz.1
      rw [← eu] at h1
      exact (onto u hu).2 q (by rw [List.dropLast_eq_take] at h1; exact List.mem_of_mem_take h1)
    · rw [List.mem_singleton] at h1
      obtain ⟨u, hu, eu⟩ := List.mem_map.mp hz.2
      rw [h1, ← eu]
      unfold lastQ
      cases e : u.getLast? with
      | none => exact cd_zero _ _
      | some x => exact (onto u hu).2 x (List.mem_of_getLast? e)
  have sw := fun r hr => (sr r hr).1
  obtain ⟨_, sl⟩ := st_len sw
  obtain ⟨t1, _⟩ := steps_A (B := 9) (H := 0) sw (by omega) (fun r hr => ⟨1, one_ne, one_le, (sr r hr).2⟩) (Nat.le_trans (Nat.mul_le_mul_left _ (pow_mono (show _ ≤ 5 by omega))) (by decide))
  refine ⟨⟨⟨(show 1 ≤ 40 by decide), fun r hr => ?_⟩, hs, e1, fun st hst l hl => ?_⟩, (show 1 ≠ 0 by decide), by omega, ⟨(show 1 ≤ 10 by decide), by rw [H.sq.wd]; exact Int.natCast_nonneg _, by rw [H.sq.wd]; omega, fun r hr => ?_⟩, cut_A hh H h2, fun p hp => ?_, fun r hr z => ?_, ⟨fun z => ne (List.map_eq_nil_iff.mp z), fun r hr => by rw [dl r hr]; unfold big; omega, t1, fun r hr => ?_⟩, e3⟩
  · unfold lastRow at hr
    rw [List.mem_singleton] at hr
    rw [hr, List.length_map, List.length_append, List.length_replicate, H.sq.wd]
    rfl
  · unfold roomE at hst
    rw [List.mem_singleton] at hst
    subst hst
    obtain ⟨l1, l2, l3⟩ := led_A H hl
    exact ⟨l1, held_A hh l2 l3, e2 l hl⟩
  · unfold roomE at hr
    rw [List.mem_singleton] at hr
    rw [hr, unit_len, H.sq.wd, Int.toNat_natCast]
  · rw [cut_ls hh H] at hp
    obtain ⟨i, hi, e⟩ := List.mem_iff_getElem.mp hp
    rw [List.getElem_zip, List.getElem_map] at e
    have hi2 : i < h.ls.length := by simp at hi; exact hi
    rw [← e]
    exact (even_A hh H (List.getElem_mem hi2)).1
  · have := (onto r hr).1
    rw [z] at this
    cases this
  · rw [steps_eq] at hr
    obtain ⟨q, hq, rfl⟩ := List.mem_map.mp hr
    have rd := (stI_spec sw).1
    have hp := (rd.wd q hq).2
    refine ⟨?_, by rw [(told_spec q).1, (rd.wd q hq).1, wq]⟩
    have h1 : an (nums (toldRow q)) (hd q) ≠ 0 := by
      have k := (told_spec q).2 (hd q)
      unfold vQ vI at k
      have nz := cast_ne (a := an q (hd q)) (by omega)
      have k2 : aq (toldRow q) (hd q) = 1 := by rw [k]; grind
      have e1 : an (nums (toldRow q)) (hd q) = (aq (toldRow q) (hd q)).num := by
        unfold an aq nums
        rw [List.getElem?_map]
        cases (toldRow q)[hd q]? with
        | none => rfl
        | some x => rfl
      rw [e1, k2]
      decide
    exact ⟨_, an_mem (by
      unfold nums
      rw [List.length_map, (told_spec q).1, (rd.wd q hq).1]
      exact red_hd_lt rd hq), h1⟩
end
end PL
set_option Elab.async false
set_option linter.all false
set_option maxRecDepth 100000
/-! The lists of kinds, sorted; what is to be looked at of each. -/
namespace PL
open TW LA
open L2 hiding V
def baseOf (l : List (Int × Int)) : List ITab := l.foldl (fun f p => placeMany f p.1 p.2.toNat) [[], []]
def dueS (l : List (Int × Int)) : Int × Int × Int := ((l.map fun p => (kindAt p.1).2.1).sum, (l.map fun p => p.2 * p.2 * (kindAt p.1).2.2.1).sum, (l.map fun p => (kindAt p.1).2.2.2).sum)
def gen : Nat → Int → Nat → Nat → List (List (Int × Int))
  | 0, _, _, _ => [[]]
  | f + 1, a, turns, most => gen f (a + 1) turns most ++ (List.range turns).flatMap fun c => if (c + 1) * (kindSize a).toNat ≤ most then (gen f (a + 1) (turns - (c + 1)) (most - (c + 1) * (kindSize a).toNat)).map ((a, ((c + 1 : Nat) : Int)) :: ·) else []
theorem gen_mem : ∀ (f : Nat) (a : Int) (turns most : Nat) (l : List (Int × Int)), (∀ p ∈ l, a ≤ p.1 ∧ p.1 < a + f ∧ 1 ≤ p.2) → l.Pairwise (fun p q => p.1 < q.1) → total (fun _ => 1) l ≤ turns → total kindSize l ≤ most → l ∈ gen f a turns most := by
  intro f
  induction f with
  | zero =>
    intro a turns most l h _ _ _
    cases l with
    | nil => exact List.mem_cons_self ..
    | cons p l =>
      have := h p (List.mem_cons_self ..)
      omega
  | succ f ih =>
    intro a turns most l h pw ht hm
    unfold gen
    by_cases hx : ∃ b l', l = (a, b) :: l'
    · obtain ⟨b, l', rfl⟩ := hx
      refine List.mem_append_right _ ?_
      obtain ⟨p1, p2⟩ := List.pairwise_cons.mp pw
      obtain ⟨_, _, h3⟩ := h (a, b) (List.mem_cons_self ..)
      simp only at h3
      have r1 : ∀ p ∈ l', a + 1 ≤ p.1 ∧ p.1 < a + 1 + f ∧ 1 ≤ p.2 := fun p hp => by
        have h4 := h p (List.mem_cons_of_mem _ hp)
        have h5 := p1 p hp
        simp only at h5
        refine ⟨by omega, by have := h4.2.1; omega, h4.2.2⟩
      have t0 : 0 ≤ total (fun _ => 1) l' := by
        unfold total
        have : ∀ m : List (Int × Int), (∀ p ∈ m, 1 ≤ p.2) → 0 ≤ (m.map fun p => p.2 * (1 : Int)).sum := fun m => by
          induction m with
          | nil => exact fun _ => Int.le_refl _
          | cons q m ihm =>
            intro hm
            have h6 := ihm fun p hp => hm p (List.mem_cons_of_mem _ hp)
            have h7 := hm q (List.mem_cons_self ..)
            rw [List.map_cons, List.sum_cons]
            omega
        exact this l' fun p hp => (r1 p hp).2.2
      have k0 : ∀ x : Int, 0 ≤ kindSize x := fun x => Int.natCast_nonneg _
      have m0 : 0 ≤ total kindSize l' := by
        unfold total
        have : ∀ m : List (Int × Int), (∀ p ∈ m, 1 ≤ p.2) → 0 ≤ (m.map fun p => p.2 * kindSize p.1).sum := fun m => by
          induction m with
          | nil => exact fun _ => Int.le_refl _
          | cons q m ihm =>
            intro hm
            have h6 := ihm fun p hp => hm p (List.mem_cons_of_mem _ hp)
            have h7 := hm q (List.mem_cons_self ..)
            have h8 := Int.mul_nonneg (show 0 ≤ q.2 by omega) (k0 q.1)
            rw [List.map_cons, List.sum_cons]
            omega
        exact this l' fun p hp => (r1 p hp).2.2
      have e1 : total (fun _ => 1) ((a, b) :: l') = b * 1 + total (fun _ => 1) l' := rfl
      have e2 : total kindSize ((a, b) :: l') = b * kindSize a + total kindSize l' := rfl
      rw [e1] at ht
      rw [e2] at hm
      obtain ⟨c, rfl⟩ : ∃ c : Nat, b = ((c + 1 : Nat) : Int) := ⟨b.toNat - 1, by omega⟩
      obtain ⟨z, hz⟩ : ∃ z : Nat, kindSize a = (z : Int) := ⟨_, rfl⟩
      rw [hz] at hm
      have e3 : (((c + 1 : Nat) : Int) * (z : Int)) = (((c + 1) * z : Nat) : Int) := by rw [Int.natCast_mul]
      rw [e3] at hm
      refine List.mem_flatMap.mpr ⟨c, List.mem_range.mpr (by omega), ?_⟩
      rw [hz, Int.toNat_natCast, if_pos (by omega)]
      exact List.mem_map.mpr ⟨l', ih (a + 1) _ _ l' r1 p2 (by omega) (by omega), rfl⟩
    · refine List.mem_append_left _ (ih (a + 1) turns most l (fun p hp => ?_) pw ht hm)
      obtain ⟨h1, h2, h3⟩ := h p hp
      have ne : p.1 ≠ a := fun e => by
        cases l with
        | nil => cases hp
        | cons q l =>
          have hq := (h q (List.mem_cons_self ..)).1
          have nq : q.1 ≠ a := fun e2 => hx ⟨q.2, l, by rw [← e2]⟩
          rcases List.mem_cons.mp hp with rfl | hp
          · exact nq e
          · have := (List.pairwise_cons.mp pw).1 p hp
            omega
      exact ⟨by omega, by omega, h3⟩
/-! the dict's pairs, sorted -/
def pairsOf (ks : Kd) (ys : List Int) : List (Int × Int) := ys.map fun a => (a, (valD ks a).getD 0)
theorem base_pairs (ks : Kd) (ys : List Int) : baseLetters ks ys = baseOf (pairsOf ks ys) := by
  unfold baseLetters baseOf pairsOf
  rw [List.foldl_map]
theorem valD_eq {ks : Kd} (nd : (ks.map (·.1)).Nodup) {p : Int × Int} (hp : p ∈ ks) : valD ks p.1 = some p.2 := by
  induction ks with
  | nil => cases hp
  | cons q ks ih =>
    rw [List.map_cons] at nd
    obtain ⟨n1, n2⟩ := List.nodup_cons.mp nd
    unfold valD
    rw [List.find?_cons]
    rcases List.mem_cons.mp hp with rfl | hp
    · rw [decide_eq_true rfl]; rfl
    · have : q.1 ≠ p.1 := fun e => n1 (by rw [e]; exact List.mem_map.mpr ⟨p, hp, rfl⟩)
      rw [decide_eq_false this]
      exact ih n2 hp
theorem pairs_perm {ks : Kd} {ys : List Int} (nd : (ks.map (·.1)).Nodup) (h : ys.Perm (ks.map (·.1))) : (pairsOf ks ys).Perm ks := by
  have h1 := h.map fun a => (a, (valD ks a).getD 0)
  have e : (ks.map (·.1)).map (fun a => (a, (valD ks a).getD 0)) = ks := by
    rw [List.map_map]
    refine (List.map_congr_left fun p hp => ?_).trans (List.map_id ks)
    show (p.1, (valD ks p.1).getD 0) = p
    rw [valD_eq nd hp]
    rfl
  rw [e] at h1
  exact h1
theorem perm_sum {l m : List Int} (h : l.Perm m) : l.sum = m.sum := by
  induction h with
  | nil => rfl
  | cons x _ ih => rw [List.sum_cons, List.sum_cons, ih]
  | swap x y l => rw [List.sum_cons, List.sum_cons, List.sum_cons, List.sum_cons]; omega
  | trans _ _ h1 h2 => rw [h1, h2]
theorem total_perm {f : Int → Int} {l m : List (Int × Int)} (h : l.Perm m) : total f l = total f m := perm_sum (h.map _)
theorem due_perm {l m : List (Int × Int)} (h : l.Perm m) : dueS l = dueS m := by
  unfold dueS
  rw [perm_sum (h.map fun p => (kindAt p.1).2.1), perm_sum (h.map fun p => p.2 * p.2 * (kindAt p.1).2.2.1), perm_sum (h.map fun p => (kindAt p.1).2.2.2)]
theorem due_eq {ks : Kd} (nd : (ks.map (·.1)).Nodup) : dueOf ks = dueS ks := by
  have key : ∀ (l : List (Int × Int)) (d : Int × Int × Int), (∀ p ∈ l, p ∈ ks) → (l.map (·.1)).foldl (dueStep ks) d = (d.1 + (dueS l).1, d.2.1 + (dueS l).2.1, d.2.2 + (dueS l).2.2) := fun l => by
    induction l with
    | nil => intro d _; unfold dueS; simp
    | cons p l ih =>
      intro d h
      rw [List.map_cons, List.foldl_cons, ih _ fun q hq => h q (List.mem_cons_of_mem _ hq)]
      unfold dueStep
      rw [valD_eq nd (h p (List.mem_cons_self ..))]
      unfold dueS
      simp only [List.map_cons, List.sum_cons, Option.getD_some]
      refine Prod.ext ?_ (Prod.ext ?_ ?_)
      · show _ + _ + _ = _ + (_ + _); omega
      · show _ + _ + _ = _ + (_ + _); omega
      · show _ + _ + _ = _ + (_ + _); omega
  have := key ks (0, 0, 0) fun p hp => hp
  unfold dueOf
  rw [this]
  refine Prod.ext ?_ (Prod.ext ?_ ?_)
  · show 0 + _ = _; omega
  · show 0 + _ = _; omega
  · show 0 + _ = _; omega
theorem pairs_gen {ks : Kd} {ys : List Int} (k : KOk 4 3 ks) (h : ys.Perm (ks.map (·.1))) (so : ys.Pairwise (· ≤ ·)) : pairsOf ks ys ∈ gen 8 0 3 4 := by
  have pm := pairs_perm k.nd h
  refine gen_mem 8 0 3 4 _ (fun p hp => ?_) ?_ ?_ ?_
  · obtain ⟨h1, h2, h3⟩ := k.rg p (pm.mem_iff.mp hp)
    exact ⟨h1, by omega, h3⟩
  · unfold pairsOf
    rw [List.pairwise_map]
    have nd : ys.Nodup := h.nodup_iff.mpr k.nd
    exact (List.Pairwise.and so nd).imp fun h => by show _ < _; have := h.1; have := h.2; omega
  · rw [total_perm pm]; exact k.cn
  · rw [total_perm pm]; exact k.wt
/-! what is looked at -/
def sqC (n : Nat) (f : List ITab) : Bool := f.length == 2 && f.all fun t => t.length == n && t.all fun r => r.length == n && r.all fun x => decide (x.natAbs ≤ 3)
theorem sqC_ok {n : Nat} {f : List ITab} (h : sqC n f = true) : TwoSq f n 3 := by
  unfold sqC at h
  simp only [Bool.and_eq_true, beq_iff_eq, List.all_eq_true, decide_eq_true_eq] at h
  exact ⟨h.1, fun t ht => ⟨(h.2 t ht).1, fun r hr => ⟨((h.2 t ht).2 r hr).1, ((h.2 t ht).2 r hr).2⟩⟩⟩
def shears (n : Nat) : List Shear := (List.range n).flatMap fun (o : Nat) => (List.range n).flatMap fun (p : Nat) => if p = o then [] else [((o : Int), (p : Int), 1), ((o : Int), (p : Int), -1)]
theorem shears_mem {n : Nat} {s : Shear} (h : ShearOk n s) : s ∈ shears n := by
  obtain ⟨a, b, m⟩ := s
  obtain ⟨h1, h2, h3, h4, h5, h6⟩ := h
  simp only at h1 h2 h3 h4 h5 h6
  obtain ⟨o, rfl⟩ := Int.eq_ofNat_of_zero_le h1
  obtain ⟨p, rfl⟩ := Int.eq_ofNat_of_zero_le h3
  refine List.mem_flatMap.mpr ⟨o, List.mem_range.mpr (by omega), List.mem_flatMap.mpr ⟨p, List.mem_range.mpr (by omega), ?_⟩⟩
  rw [if_neg (by omega)]
  rcases h6 with rfl | rfl
  · exact List.mem_cons_self ..
  · exact List.mem_cons_of_mem _ (List.mem_cons_self ..)
/-- a house changed by at most two shears -/
def small (n : Nat) (f : List ITab) : List (List ITab) := f :: ((shears n).map (shear f) ++ (shears n).flatMap fun s => (shears n).map (shear (shear f s)))
theorem small_mem {n : Nat} {f : List ITab} {ss : List Shear} (hl : ss.length ≤ 2) (h : ∀ s ∈ ss, ShearOk n s) : ss.foldl shear f ∈ small n f := by
  match ss, hl, h with
  | [], _, _ => exact List.mem_cons_self ..
  | [s], _, h => exact List.mem_cons_of_mem _ (List.mem_append_left _ (List.mem_map.mpr ⟨s, shears_mem (h s (List.mem_cons_self ..)), rfl⟩))
  | [s, u], _, h => exact List.mem_cons_of_mem _ (List.mem_append_right _ (List.mem_flatMap.mpr ⟨s, shears_mem (h s (List.mem_cons_self ..)), List.mem_map.mpr ⟨u, shears_mem (h u (List.mem_cons_of_mem _ (List.mem_cons_self ..))), rfl⟩⟩))
/-- with the corner it parts no more, no partner -/
def okS (n : Nat) (f : List ITab) : Bool := !m_parts (houOf (moreI f)) && (houOf (moreI f)).ls.all (fun l => m_held (roomE n) (m_led_by (unitE n) l)) && (m_solution_of ((ontoRows (houOf (moreI f)) (roomE n)).map fun r => r.dropLast) ((ontoRows (houOf (moreI f)) (roomE n)).map lastQ)).isNone
def okC (l : List (Int × Int)) : Bool := sqC (sizeOf0 (baseOf l)) (baseOf l) && decide (1 ≤ sizeOf0 (baseOf l)) && decide (sizeOf0 (baseOf l) ≤ 4) && decide ((dueS l).1 ≤ 6 ∧ 0 ≤ (dueS l).1 ∧ (dueS l).2.1 < 100 ∧ 0 ≤ (dueS l).2.1 ∧ (dueS l).2.2 ≤ 4 ∧ 0 ≤ (dueS l).2.2) &&
  decide (m_dimension (houOf (baseOf l)) = (dueS l).1) && decide (((m_commuting (houOf (baseOf l))).length : Int) = (dueS l).2.1) && decide (((m_middle (houOf (baseOf l))).length : Int) = (dueS l).2.2) && m_parts (houOf (baseOf l))
def okT (l : List (Int × Int)) : Bool := decide (2 < sizeOf0 (baseOf l)) || (small (sizeOf0 (baseOf l)) (baseOf l)).eraseDups.all (okS (sizeOf0 (baseOf l)))
def canon : List (List (Int × Int)) := gen 8 0 3 4
theorem heads_E : ∀ n, n < 3 → m_heads_of (roomE n) = [((n + 1 : Nat) : Int)] ∧ m_steps_of (roomE n) = roomE n := by decide +kernel
theorem shears_two {n b : Nat} (ss : List Shear) : ∀ {f : List ITab} {b : Nat}, TwoSq f n b → (∀ s ∈ ss, ShearOk n s) → TwoSq (ss.foldl shear f) n (4 ^ ss.length * b) := by
  induction ss with
  | nil => intro f b h _; simpa using h
  | cons s ss ih =>
    intro f b h hs
    have := ih (shear_sq h (hs s (List.mem_cons_self ..))) fun u hu => hs u (List.mem_cons_of_mem _ hu)
    rw [List.length_cons, Nat.pow_succ, Nat.mul_assoc]
    exact this
theorem sqB_mono {f : List ITab} {n b c : Nat} (h : TwoSq f n b) (hc : b ≤ c) : TwoSq f n c := ⟨h.1, fun t ht => (h.2 t ht).mono hc⟩
theorem two_size {f : List ITab} {n b : Nat} (h : TwoSq f n b) : sizeOf0 f = n := (atL_two h).1.1
theorem plain (hC : ∀ l ∈ canon, l.isEmpty = true ∨ okC l = true) (hT : ∀ l ∈ canon, l.isEmpty = true ∨ okT l = true) : PlainLaw := by
  intro ks ls kok kne ⟨ys, ss, pm, so, sl, sok, els⟩
  have gm := pairs_gen kok pm so
  have pp := pairs_perm kok.nd pm
  have ne : (pairsOf ks ys).isEmpty = false := by
    cases e : pairsOf ks ys with
    | nil =>
      rw [e] at pp
      exact absurd (List.nil_perm.mp pp) kne
    | cons p l => rfl
  have c := (hC _ gm).resolve_left (by rw [ne]; decide)
  have t := (hT _ gm).resolve_left (by rw [ne]; decide)
  rw [base_pairs] at sok els
  have due : dueOf ks = dueS (pairsOf ks ys) := (due_eq kok.nd).trans (due_perm pp).symm
  generalize pairsOf ks ys = l at c t sok els due
  unfold okC at c
  simp only [Bool.and_eq_true, decide_eq_true_eq] at c
  obtain ⟨⟨⟨⟨⟨⟨⟨c1, c2⟩, c3⟩, c4⟩, c5⟩, c6⟩, c7⟩, c8⟩ := c
  unfold okT at t
  have tb := sqC_ok c1
  generalize baseOf l = f at c1 c2 c3 c5 c6 c7 c8 t sok els tb
  have tl : TwoSq ls (sizeOf0 f) 48 := by
    rw [els]
    refine sqB_mono (shears_two (b := 3) ss tb sok) ?_
    have : 4 ^ ss.length ≤ 4 ^ 2 := Nat.pow_le_pow_right (by decide) sl
    omega
  have es : sizeOf0 ls = sizeOf0 f := two_size tl
  obtain ⟨_, S⟩ := shears_same (n := sizeOf0 f) ss (two_sqI tb (by omega)) sok
  rw [← els] at S
  have H := hou_ok tl (by omega) c3 (by decide)
  have d1 : m_dimension (houOf ls) = (dueOf ks).1 := by rw [S.dm, c5, due]
  have d2 : ((m_commuting (houOf ls)).length : Int) = (dueOf ks).2.1 := by rw [S.cm, c6, due]
  have d3 : ((m_middle (houOf ls)).length : Int) = (dueOf ks).2.2 := by rw [S.md, c7, due]
  have bl : ((m_base_of (houOf ls)).length : Int) = (dueOf ks).1 := d1
  have A1 : A_letters_in (asI ls) := letters_A tl (by omega) c3
  refine ⟨tl.1, fun u hu => ?_, ⟨by omega, by omega⟩, A1, dim_A H, com_A H, mid_A H (by rw [due] at bl; omega) (by rw [due] at d3; omega), d1, d2, d3, ?_, parts_A H, by rw [S.pt]; exact c8, every_A H, ?_, fun h2 => ?_⟩
  · rw [es]
    exact ⟨(tl.2 u hu).1, fun r hr => ((tl.2 u hu).2 r hr).1⟩
  · rw [due]
    unfold Short
    omega
  · unfold m_every_table
    rw [bl, H.sq.wd, es]
  · rw [es] at h2 ⊢
    rw [Bool.or_eq_true] at t
    have t2 : (small (sizeOf0 f) f).eraseDups.all (okS (sizeOf0 f)) = true := t.resolve_left (by rw [decide_eq_true_eq]; omega)
    have ok := List.all_eq_true.mp t2 ls (by rw [List.mem_eraseDups, els]; exact small_mem sl sok)
    unfold okS at ok
    simp only [Bool.and_eq_true, Bool.not_eq_true', List.all_eq_true, Option.isNone_iff_eq_none] at ok
    obtain ⟨⟨o1, o2⟩, o3⟩ := ok
    have tm := more_two tl (by decide)
    have HM := hou_ok tm (by omega) (by omega) (by decide)
    obtain ⟨e1, e2⟩ := heads_E (sizeOf0 f) (by omega)
    have two : (houOf (moreI ls)).ls.length = 2 := by rw [(hou_eq _).1, List.length_map]; rfl
    rw [more_eq]
    exact ⟨letters_A (pair_two tl) (by omega) c3, letters_A (cor_two tl (by decide)) (by decide) (by decide), side_A tl (by omega) h2 (by decide), parts_A HM, o1, partner_A e1 HM two e2 o2 o3⟩
theorem chunk {α : Type} {c : List α} {f : α → Bool} (k m : Nat) (hk : 0 < k) (hl : c.length ≤ k * m) (h : ∀ j, j < m → ((c.drop (k * j)).take k).all f = true) : ∀ x ∈ c, f x = true := fun x hx => by
  obtain ⟨i, hi, e⟩ := List.mem_iff_getElem.mp hx
  have h1 : i / k < m := Nat.div_lt_of_lt_mul (by omega)
  refine List.all_eq_true.mp (h _ h1) x ?_
  refine List.mem_iff_getElem.mpr ⟨i % k, ?_, ?_⟩
  · rw [List.length_take, List.length_drop]
    have := Nat.mod_lt i hk
    have := Nat.div_add_mod i k
    omega
  · rw [List.getElem_take, List.getElem_drop]
    rw [← e]
    congr 1
    exact Nat.div_add_mod i k
end PL
set_option Elab.async false
set_option linter.all false
set_option maxRecDepth 100000
set_option maxHeartbeats 0
/-! All lists of kinds, looked at. -/
namespace PL
open TW LA
open L2 hiding V
def fC (l : List (Int × Int)) : Bool := l.isEmpty || okC l
def fT (l : List (Int × Int)) : Bool := l.isEmpty || okT l
def smallOf (l : List (Int × Int)) : List (List ITab) := (small (sizeOf0 (baseOf l)) (baseOf l)).eraseDups
theorem okT_of {l : List (Int × Int)} {n : Nat} (hn : sizeOf0 (baseOf l) = n) (h : ∀ x ∈ smallOf l, okS n x = true) : okT l = true := by
  unfold okT
  rw [Bool.or_eq_true]
  refine .inr (List.all_eq_true.mpr fun x hx => ?_)
  rw [hn]
  exact h x hx
theorem one_of {c : List (List (Int × Int))} {f : List (Int × Int) → Bool} {j : Nat} {l : List (Int × Int)} (e : (c.drop (1 * j)).take 1 = [l]) (h : f l = true) : ((c.drop (1 * j)).take 1).all f = true := by
  rw [e, List.all_cons, h]
  rfl
theorem fT_of {l : List (Int × Int)} (h : okT l = true) : fT l = true := by unfold fT; rw [h, Bool.or_true]
theorem canon_len : canon.length = 105 := by decide +kernel
theorem e0 : (canon.drop (1 * 0)).take 1 = [[]] := by decide +kernel
theorem cC0 : fC [] = true := by decide +kernel
theorem cT0 : fT [] = true := by decide +kernel
theorem e1 : (canon.drop (1 * 1)).take 1 = [[(7, 1)]] := by decide +kernel
theorem cC1 : fC [(7, 1)] = true := by decide +kernel
theorem cT1_0 : (((smallOf [(7, 1)]).drop (2 * 0)).take 2).all (okS 2) = true := by decide +kernel
theorem cT1_1 : (((smallOf [(7, 1)]).drop (2 * 1)).take 2).all (okS 2) = true := by decide +kernel
theorem cT1_2 : (((smallOf [(7, 1)]).drop (2 * 2)).take 2).all (okS 2) = true := by decide +kernel
theorem cT1_3 : (((smallOf [(7, 1)]).drop (2 * 3)).take 2).all (okS 2) = true := by decide +kernel
theorem cT1_4 : (((smallOf [(7, 1)]).drop (2 * 4)).take 2).all (okS 2) = true := by decide +kernel
theorem cT1_5 : (((smallOf [(7, 1)]).drop (2 * 5)).take 2).all (okS 2) = true := by decide +kernel
theorem cT1_6 : (((smallOf [(7, 1)]).drop (2 * 6)).take 2).all (okS 2) = true := by decide +kernel
theorem cT1_7 : (((smallOf [(7, 1)]).drop (2 * 7)).take 2).all (okS 2) = true := by decide +kernel
theorem cT1_8 : (((smallOf [(7, 1)]).drop (2 * 8)).take 2).all (okS 2) = true := by decide +kernel
theorem cT1 : fT [(7, 1)] = true := fT_of (okT_of (n := 2) (by decide +kernel) (chunk 2 9 (by decide) (by decide +kernel) fun j hj => match j, hj with
  | 0, _ => cT1_0
  | 1, _ => cT1_1
  | 2, _ => cT1_2
  | 3, _ => cT1_3
  | 4, _ => cT1_4
  | 5, _ => cT1_5
  | 6, _ => cT1_6
  | 7, _ => cT1_7
  | 8, _ => cT1_8
  | j + 9, h => absurd h (by omega)))
theorem e2 : (canon.drop (1 * 2)).take 1 = [[(7, 2)]] := by decide +kernel
theorem cC2 : fC [(7, 2)] = true := by decide +kernel
theorem cT2 : fT [(7, 2)] = true := by decide +kernel
theorem e3 : (canon.drop (1 * 3)).take 1 = [[(6, 1)]] := by decide +kernel
theorem cC3 : fC [(6, 1)] = true := by decide +kernel
theorem cT3_0 : (((smallOf [(6, 1)]).drop (2 * 0)).take 2).all (okS 2) = true := by decide +kernel
theorem cT3_1 : (((smallOf [(6, 1)]).drop (2 * 1)).take 2).all (okS 2) = true := by decide +kernel
theorem cT3_2 : (((smallOf [(6, 1)]).drop (2 * 2)).take 2).all (okS 2) = true := by decide +kernel
theorem cT3_3 : (((smallOf [(6, 1)]).drop (2 * 3)).take 2).all (okS 2) = true := by decide +kernel
theorem cT3_4 : (((smallOf [(6, 1)]).drop (2 * 4)).take 2).all (okS 2) = true := by decide +kernel
theorem cT3_5 : (((smallOf [(6, 1)]).drop (2 * 5)).take 2).all (okS 2) = true := by decide +kernel
theorem cT3_6 : (((smallOf [(6, 1)]).drop (2 * 6)).take 2).all (okS 2) = true := by decide +kernel
theorem cT3_7 : (((smallOf [(6, 1)]).drop (2 * 7)).take 2).all (okS 2) = true := by decide +kernel
theorem cT3_8 : (((smallOf [(6, 1)]).drop (2 * 8)).take 2).all (okS 2) = true := by decide +kernel
theorem cT3 : fT [(6, 1)] = true := fT_of (okT_of (n := 2) (by decide +kernel) (chunk 2 9 (by decide) (by decide +kernel) fun j hj => match j, hj with
  | 0, _ => cT3_0
  | 1, _ => cT3_1
  | 2, _ => cT3_2
  | 3, _ => cT3_3
  | 4, _ => cT3_4
  | 5, _ => cT3_5
  | 6, _ => cT3_6
  | 7, _ => cT3_7
  | 8, _ => cT3_8
  | j + 9, h => absurd h (by omega)))
theorem e4 : (canon.drop (1 * 4)).take 1 = [[(6, 1), (7, 1)]] := by decide +kernel
theorem cC4 : fC [(6, 1), (7, 1)] = true := by decide +kernel
theorem cT4 : fT [(6, 1), (7, 1)] = true := by decide +kernel
theorem e5 : (canon.drop (1 * 5)).take 1 = [[(6, 2)]] := by decide +kernel
theorem cC5 : fC [(6, 2)] = true := by decide +kernel
theorem cT5 : fT [(6, 2)] = true := by decide +kernel
theorem e6 : (canon.drop (1 * 6)).take 1 = [[(5, 1)]] := by decide +kernel
theorem cC6 : fC [(5, 1)] = true := by decide +kernel
theorem cT6_0 : (((smallOf [(5, 1)]).drop (2 * 0)).take 2).all (okS 2) = true := by decide +kernel
theorem cT6_1 : (((smallOf [(5, 1)]).drop (2 * 1)).take 2).all (okS 2) = true := by decide +kernel
theorem cT6_2 : (((smallOf [(5, 1)]).drop (2 * 2)).take 2).all (okS 2) = true := by decide +kernel
theorem cT6_3 : (((smallOf [(5, 1)]).drop (2 * 3)).take 2).all (okS 2) = true := by decide +kernel
theorem cT6_4 : (((smallOf [(5, 1)]).drop (2 * 4)).take 2).all (okS 2) = true := by decide +kernel
theorem cT6_5 : (((smallOf [(5, 1)]).drop (2 * 5)).take 2).all (okS 2) = true := by decide +kernel
theorem cT6_6 : (((smallOf [(5, 1)]).drop (2 * 6)).take 2).all (okS 2) = true := by decide +kernel
theorem cT6_7 : (((smallOf [(5, 1)]).drop (2 * 7)).take 2).all (okS 2) = true := by decide +kernel
theorem cT6_8 : (((smallOf [(5, 1)]).drop (2 * 8)).take 2).all (okS 2) = true := by decide +kernel
theorem cT6 : fT [(5, 1)] = true := fT_of (okT_of (n := 2) (by decide +kernel) (chunk 2 9 (by decide) (by decide +kernel) fun j hj => match j, hj with
  | 0, _ => cT6_0
  | 1, _ => cT6_1
  | 2, _ => cT6_2
  | 3, _ => cT6_3
  | 4, _ => cT6_4
  | 5, _ => cT6_5
  | 6, _ => cT6_6
  | 7, _ => cT6_7
  | 8, _ => cT6_8
  | j + 9, h => absurd h (by omega)))
theorem e7 : (canon.drop (1 * 7)).take 1 = [[(5, 1), (7, 1)]] := by decide +kernel
theorem cC7 : fC [(5, 1), (7, 1)] = true := by decide +kernel
theorem cT7 : fT [(5, 1), (7, 1)] = true := by decide +kernel
theorem e8 : (canon.drop (1 * 8)).take 1 = [[(5, 1), (6, 1)]] := by decide +kernel
theorem cC8 : fC [(5, 1), (6, 1)] = true := by decide +kernel
theorem cT8 : fT [(5, 1), (6, 1)] = true := by decide +kernel
theorem e9 : (canon.drop (1 * 9)).take 1 = [[(5, 2)]] := by decide +kernel
theorem cC9 : fC [(5, 2)] = true := by decide +kernel
theorem cT9 : fT [(5, 2)] = true := by decide +kernel
theorem e10 : (canon.drop (1 * 10)).take 1 = [[(4, 1)]] := by decide +kernel
theorem cC10 : fC [(4, 1)] = true := by decide +kernel
theorem cT10_0 : (((smallOf [(4, 1)]).drop (2 * 0)).take 2).all (okS 2) = true := by decide +kernel
theorem cT10_1 : (((smallOf [(4, 1)]).drop (2 * 1)).take 2).all (okS 2) = true := by decide +kernel
theorem cT10_2 : (((smallOf [(4, 1)]).drop (2 * 2)).take 2).all (okS 2) = true := by decide +kernel
theorem cT10_3 : (((smallOf [(4, 1)]).drop (2 * 3)).take 2).all (okS 2) = true := by decide +kernel
theorem cT10_4 : (((smallOf [(4, 1)]).drop (2 * 4)).take 2).all (okS 2) = true := by decide +kernel
theorem cT10_5 : (((smallOf [(4, 1)]).drop (2 * 5)).take 2).all (okS 2) = true := by decide +kernel
theorem cT10_6 : (((smallOf [(4, 1)]).drop (2 * 6)).take 2).all (okS 2) = true := by decide +kernel
theorem cT10_7 : (((smallOf [(4, 1)]).drop (2 * 7)).take 2).all (okS 2) = true := by decide +kernel
theorem cT10_8 : (((smallOf [(4, 1)]).drop (2 * 8)).take 2).all (okS 2) = true := by decide +kernel
theorem cT10 : fT [(4, 1)] = true := fT_of (okT_of (n := 2) (by decide +kernel) (chunk 2 9 (by decide) (by decide +kernel) fun j hj => match j, hj with
  | 0, _ => cT10_0
  | 1, _ => cT10_1
  | 2, _ => cT10_2
  | 3, _ => cT10_3
  | 4, _ => cT10_4
  | 5, _ => cT10_5
  | 6, _ => cT10_6
  | 7, _ => cT10_7
  | 8, _ => cT10_8
  | j + 9, h => absurd h (by omega)))
theorem e11 : (canon.drop (1 * 11)).take 1 = [[(4, 1), (7, 1)]] := by decide +kernel
theorem cC11 : fC [(4, 1), (7, 1)] = true := by decide +kernel
theorem cT11 : fT [(4, 1), (7, 1)] = true := by decide +kernel
theorem e12 : (canon.drop (1 * 12)).take 1 = [[(4, 1), (6, 1)]] := by decide +kernel
theorem cC12 : fC [(4, 1), (6, 1)] = true := by decide +kernel
theorem cT12 : fT [(4, 1), (6, 1)] = true := by decide +kernel
theorem e13 : (canon.drop (1 * 13)).take 1 = [[(4, 1), (5, 1)]] := by decide +kernel
theorem cC13 : fC [(4, 1), (5, 1)] = true := by decide +kernel
theorem cT13 : fT [(4, 1), (5, 1)] = true := by decide +kernel
theorem e14 : (canon.drop (1 * 14)).take 1 = [[(4, 2)]] := by decide +kernel
theorem cC14 : fC [(4, 2)] = true := by decide +kernel
theorem cT14 : fT [(4, 2)] = true := by decide +kernel
theorem e15 : (canon.drop (1 * 15)).take 1 = [[(3, 1)]] := by decide +kernel
theorem cC15 : fC [(3, 1)] = true := by decide +kernel
theorem cT15_0 : (((smallOf [(3, 1)]).drop (2 * 0)).take 2).all (okS 1) = true := by decide +kernel
theorem cT15 : fT [(3, 1)] = true := fT_of (okT_of (n := 1) (by decide +kernel) (chunk 2 1 (by decide) (by decide +kernel) fun j hj => match j, hj with
  | 0, _ => cT15_0
  | j + 1, h => absurd h (by omega)))
theorem e16 : (canon.drop (1 * 16)).take 1 = [[(3, 1), (7, 1)]] := by decide +kernel
theorem cC16 : fC [(3, 1), (7, 1)] = true := by decide +kernel
theorem cT16 : fT [(3, 1), (7, 1)] = true := by decide +kernel
theorem e17 : (canon.drop (1 * 17)).take 1 = [[(3, 1), (6, 1)]] := by decide +kernel
theorem cC17 : fC [(3, 1), (6, 1)] = true := by decide +kernel
theorem cT17 : fT [(3, 1), (6, 1)] = true := by decide +kernel
theorem e18 : (canon.drop (1 * 18)).take 1 = [[(3, 1), (5, 1)]] := by decide +kernel
theorem cC18 : fC [(3, 1), (5, 1)] = true := by decide +kernel
theorem cT18 : fT [(3, 1), (5, 1)] = true := by decide +kernel
theorem e19 : (canon.drop (1 * 19)).take 1 = [[(3, 1), (4, 1)]] := by decide +kernel
theorem cC19 : fC [(3, 1), (4, 1)] = true := by decide +kernel
theorem cT19 : fT [(3, 1), (4, 1)] = true := by decide +kernel
theorem e20 : (canon.drop (1 * 20)).take 1 = [[(3, 2)]] := by decide +kernel
theorem cC20 : fC [(3, 2)] = true := by decide +kernel
theorem cT20_0 : (((smallOf [(3, 2)]).drop (2 * 0)).take 2).all (okS 2) = true := by decide +kernel
theorem cT20_1 : (((smallOf [(3, 2)]).drop (2 * 1)).take 2).all (okS 2) = true := by decide +kernel
theorem cT20_2 : (((smallOf [(3, 2)]).drop (2 * 2)).take 2).all (okS 2) = true := by decide +kernel
theorem cT20_3 : (((smallOf [(3, 2)]).drop (2 * 3)).take 2).all (okS 2) = true := by decide +kernel
theorem cT20_4 : (((smallOf [(3, 2)]).drop (2 * 4)).take 2).all (okS 2) = true := by decide +kernel
theorem cT20_5 : (((smallOf [(3, 2)]).drop (2 * 5)).take 2).all (okS 2) = true := by decide +kernel
theorem cT20_6 : (((smallOf [(3, 2)]).drop (2 * 6)).take 2).all (okS 2) = true := by decide +kernel
theorem cT20_7 : (((smallOf [(3, 2)]).drop (2 * 7)).take 2).all (okS 2) = true := by decide +kernel
theorem cT20_8 : (((smallOf [(3, 2)]).drop (2 * 8)).take 2).all (okS 2) = true := by decide +kernel
theorem cT20 : fT [(3, 2)] = true := fT_of (okT_of (n := 2) (by decide +kernel) (chunk 2 9 (by decide) (by decide +kernel) fun j hj => match j, hj with
  | 0, _ => cT20_0
  | 1, _ => cT20_1
  | 2, _ => cT20_2
  | 3, _ => cT20_3
  | 4, _ => cT20_4
  | 5, _ => cT20_5
  | 6, _ => cT20_6
  | 7, _ => cT20_7
  | 8, _ => cT20_8
  | j + 9, h => absurd h (by omega)))
theorem e21 : (canon.drop (1 * 21)).take 1 = [[(3, 2), (7, 1)]] := by decide +kernel
theorem cC21 : fC [(3, 2), (7, 1)] = true := by decide +kernel
theorem cT21 : fT [(3, 2), (7, 1)] = true := by decide +kernel
theorem e22 : (canon.drop (1 * 22)).take 1 = [[(3, 2), (6, 1)]] := by decide +kernel
theorem cC22 : fC [(3, 2), (6, 1)] = true := by decide +kernel
theorem cT22 : fT [(3, 2), (6, 1)] = true := by decide +kernel
theorem e23 : (canon.drop (1 * 23)).take 1 = [[(3, 2), (5, 1)]] := by decide +kernel
theorem cC23 : fC [(3, 2), (5, 1)] = true := by decide +kernel
theorem cT23 : fT [(3, 2), (5, 1)] = true := by decide +kernel
theorem e24 : (canon.drop (1 * 24)).take 1 = [[(3, 2), (4, 1)]] := by decide +kernel
theorem cC24 : fC [(3, 2), (4, 1)] = true := by decide +kernel
theorem cT24 : fT [(3, 2), (4, 1)] = true := by decide +kernel
theorem e25 : (canon.drop (1 * 25)).take 1 = [[(3, 3)]] := by decide +kernel
theorem cC25 : fC [(3, 3)] = true := by decide +kernel
theorem cT25 : fT [(3, 3)] = true := by decide +kernel
theorem e26 : (canon.drop (1 * 26)).take 1 = [[(2, 1)]] := by decide +kernel
theorem cC26 : fC [(2, 1)] = true := by decide +kernel
theorem cT26_0 : (((smallOf [(2, 1)]).drop (2 * 0)).take 2).all (okS 1) = true := by decide +kernel
theorem cT26 : fT [(2, 1)] = true := fT_of (okT_of (n := 1) (by decide +kernel) (chunk 2 1 (by decide) (by decide +kernel) fun j hj => match j, hj with
  | 0, _ => cT26_0
  | j + 1, h => absurd h (by omega)))
theorem e27 : (canon.drop (1 * 27)).take 1 = [[(2, 1), (7, 1)]] := by decide +kernel
theorem cC27 : fC [(2, 1), (7, 1)] = true := by decide +kernel
theorem cT27 : fT [(2, 1), (7, 1)] = true := by decide +kernel
theorem e28 : (canon.drop (1 * 28)).take 1 = [[(2, 1), (6, 1)]] := by decide +kernel
theorem cC28 : fC [(2, 1), (6, 1)] = true := by decide +kernel
theorem cT28 : fT [(2, 1), (6, 1)] = true := by decide +kernel
theorem e29 : (canon.drop (1 * 29)).take 1 = [[(2, 1), (5, 1)]] := by decide +kernel
theorem cC29 : fC [(2, 1), (5, 1)] = true := by decide +kernel
theorem cT29 : fT [(2, 1), (5, 1)] = true := by decide +kernel
theorem e30 : (canon.drop (1 * 30)).take 1 = [[(2, 1), (4, 1)]] := by decide +kernel
theorem cC30 : fC [(2, 1), (4, 1)] = true := by decide +kernel
theorem cT30 : fT [(2, 1), (4, 1)] = true := by decide +kernel
theorem e31 : (canon.drop (1 * 31)).take 1 = [[(2, 1), (3, 1)]] := by decide +kernel
theorem cC31 : fC [(2, 1), (3, 1)] = true := by decide +kernel
theorem cT31_0 : (((smallOf [(2, 1), (3, 1)]).drop (2 * 0)).take 2).all (okS 2) = true := by decide +kernel
theorem cT31_1 : (((smallOf [(2, 1), (3, 1)]).drop (2 * 1)).take 2).all (okS 2) = true := by decide +kernel
theorem cT31_2 : (((smallOf [(2, 1), (3, 1)]).drop (2 * 2)).take 2).all (okS 2) = true := by decide +kernel
theorem cT31_3 : (((smallOf [(2, 1), (3, 1)]).drop (2 * 3)).take 2).all (okS 2) = true := by decide +kernel
theorem cT31_4 : (((smallOf [(2, 1), (3, 1)]).drop (2 * 4)).take 2).all (okS 2) = true := by decide +kernel
theorem cT31_5 : (((smallOf [(2, 1), (3, 1)]).drop (2 * 5)).take 2).all (okS 2) = true := by decide +kernel
theorem cT31_6 : (((smallOf [(2, 1), (3, 1)]).drop (2 * 6)).take 2).all (okS 2) = true := by decide +kernel
theorem cT31_7 : (((smallOf [(2, 1), (3, 1)]).drop (2 * 7)).take 2).all (okS 2) = true := by decide +kernel
theorem cT31_8 : (((smallOf [(2, 1), (3, 1)]).drop (2 * 8)).take 2).all (okS 2) = true := by decide +kernel
theorem cT31 : fT [(2, 1), (3, 1)] = true := fT_of (okT_of (n := 2) (by decide +kernel) (chunk 2 9 (by decide) (by decide +kernel) fun j hj => match j, hj with
  | 0, _ => cT31_0
  | 1, _ => cT31_1
  | 2, _ => cT31_2
  | 3, _ => cT31_3
  | 4, _ => cT31_4
  | 5, _ => cT31_5
  | 6, _ => cT31_6
  | 7, _ => cT31_7
  | 8, _ => cT31_8
  | j + 9, h => absurd h (by omega)))
theorem e32 : (canon.drop (1 * 32)).take 1 = [[(2, 1), (3, 1), (7, 1)]] := by decide +kernel
theorem cC32 : fC [(2, 1), (3, 1), (7, 1)] = true := by decide +kernel
theorem cT32 : fT [(2, 1), (3, 1), (7, 1)] = true := by decide +kernel
theorem e33 : (canon.drop (1 * 33)).take 1 = [[(2, 1), (3, 1), (6, 1)]] := by decide +kernel
theorem cC33 : fC [(2, 1), (3, 1), (6, 1)] = true := by decide +kernel
theorem cT33 : fT [(2, 1), (3, 1), (6, 1)] = true := by decide +kernel
theorem e34 : (canon.drop (1 * 34)).take 1 = [[(2, 1), (3, 1), (5, 1)]] := by decide +kernel
theorem cC34 : fC [(2, 1), (3, 1), (5, 1)] = true := by decide +kernel
theorem cT34 : fT [(2, 1), (3, 1), (5, 1)] = true := by decide +kernel
theorem e35 : (canon.drop (1 * 35)).take 1 = [[(2, 1), (3, 1), (4, 1)]] := by decide +kernel
theorem cC35 : fC [(2, 1), (3, 1), (4, 1)] = true := by decide +kernel
theorem cT35 : fT [(2, 1), (3, 1), (4, 1)] = true := by decide +kernel
theorem e36 : (canon.drop (1 * 36)).take 1 = [[(2, 1), (3, 2)]] := by decide +kernel
theorem cC36 : fC [(2, 1), (3, 2)] = true := by decide +kernel
theorem cT36 : fT [(2, 1), (3, 2)] = true := by decide +kernel
theorem e37 : (canon.drop (1 * 37)).take 1 = [[(2, 2)]] := by decide +kernel
theorem cC37 : fC [(2, 2)] = true := by decide +kernel
theorem cT37_0 : (((smallOf [(2, 2)]).drop (2 * 0)).take 2).all (okS 2) = true := by decide +kernel
theorem cT37_1 : (((smallOf [(2, 2)]).drop (2 * 1)).take 2).all (okS 2) = true := by decide +kernel
theorem cT37_2 : (((smallOf [(2, 2)]).drop (2 * 2)).take 2).all (okS 2) = true := by decide +kernel
theorem cT37_3 : (((smallOf [(2, 2)]).drop (2 * 3)).take 2).all (okS 2) = true := by decide +kernel
theorem cT37_4 : (((smallOf [(2, 2)]).drop (2 * 4)).take 2).all (okS 2) = true := by decide +kernel
theorem cT37_5 : (((smallOf [(2, 2)]).drop (2 * 5)).take 2).all (okS 2) = true := by decide +kernel
theorem cT37_6 : (((smallOf [(2, 2)]).drop (2 * 6)).take 2).all (okS 2) = true := by decide +kernel
theorem cT37_7 : (((smallOf [(2, 2)]).drop (2 * 7)).take 2).all (okS 2) = true := by decide +kernel
theorem cT37_8 : (((smallOf [(2, 2)]).drop (2 * 8)).take 2).all (okS 2) = true := by decide +kernel
theorem cT37 : fT [(2, 2)] = true := fT_of (okT_of (n := 2) (by decide +kernel) (chunk 2 9 (by decide) (by decide +kernel) fun j hj => match j, hj with
  | 0, _ => cT37_0
  | 1, _ => cT37_1
  | 2, _ => cT37_2
  | 3, _ => cT37_3
  | 4, _ => cT37_4
  | 5, _ => cT37_5
  | 6, _ => cT37_6
  | 7, _ => cT37_7
  | 8, _ => cT37_8
  | j + 9, h => absurd h (by omega)))
theorem e38 : (canon.drop (1 * 38)).take 1 = [[(2, 2), (7, 1)]] := by decide +kernel
theorem cC38 : fC [(2, 2), (7, 1)] = true := by decide +kernel
theorem cT38 : fT [(2, 2), (7, 1)] = true := by decide +kernel
theorem e39 : (canon.drop (1 * 39)).take 1 = [[(2, 2), (6, 1)]] := by decide +kernel
theorem cC39 : fC [(2, 2), (6, 1)] = true := by decide +kernel
theorem cT39 : fT [(2, 2), (6, 1)] = true := by decide +kernel
theorem e40 : (canon.drop (1 * 40)).take 1 = [[(2, 2), (5, 1)]] := by decide +kernel
theorem cC40 : fC [(2, 2), (5, 1)] = true := by decide +kernel
theorem cT40 : fT [(2, 2), (5, 1)] = true := by decide +kernel
theorem e41 : (canon.drop (1 * 41)).take 1 = [[(2, 2), (4, 1)]] := by decide +kernel
theorem cC41 : fC [(2, 2), (4, 1)] = true := by decide +kernel
theorem cT41 : fT [(2, 2), (4, 1)] = true := by decide +kernel
theorem e42 : (canon.drop (1 * 42)).take 1 = [[(2, 2), (3, 1)]] := by decide +kernel
theorem cC42 : fC [(2, 2), (3, 1)] = true := by decide +kernel
theorem cT42 : fT [(2, 2), (3, 1)] = true := by decide +kernel
theorem e43 : (canon.drop (1 * 43)).take 1 = [[(2, 3)]] := by decide +kernel
theorem cC43 : fC [(2, 3)] = true := by decide +kernel
theorem cT43 : fT [(2, 3)] = true := by decide +kernel
theorem e44 : (canon.drop (1 * 44)).take 1 = [[(1, 1)]] := by decide +kernel
theorem cC44 : fC [(1, 1)] = true := by decide +kernel
theorem cT44_0 : (((smallOf [(1, 1)]).drop (2 * 0)).take 2).all (okS 1) = true := by decide +kernel
theorem cT44 : fT [(1, 1)] = true := fT_of (okT_of (n := 1) (by decide +kernel) (chunk 2 1 (by decide) (by decide +kernel) fun j hj => match j, hj with
  | 0, _ => cT44_0
  | j + 1, h => absurd h (by omega)))
theorem e45 : (canon.drop (1 * 45)).take 1 = [[(1, 1), (7, 1)]] := by decide +kernel
theorem cC45 : fC [(1, 1), (7, 1)] = true := by decide +kernel
theorem cT45 : fT [(1, 1), (7, 1)] = true := by decide +kernel
theorem e46 : (canon.drop (1 * 46)).take 1 = [[(1, 1), (6, 1)]] := by decide +kernel
theorem cC46 : fC [(1, 1), (6, 1)] = true := by decide +kernel
theorem cT46 : fT [(1, 1), (6, 1)] = true := by decide +kernel
theorem e47 : (canon.drop (1 * 47)).take 1 = [[(1, 1), (5, 1)]] := by decide +kernel
theorem cC47 : fC [(1, 1), (5, 1)] = true := by decide +kernel
theorem cT47 : fT [(1, 1), (5, 1)] = true := by decide +kernel
theorem e48 : (canon.drop (1 * 48)).take 1 = [[(1, 1), (4, 1)]] := by decide +kernel
theorem cC48 : fC [(1, 1), (4, 1)] = true := by decide +kernel
theorem cT48 : fT [(1, 1), (4, 1)] = true := by decide +kernel
theorem e49 : (canon.drop (1 * 49)).take 1 = [[(1, 1), (3, 1)]] := by decide +kernel
theorem cC49 : fC [(1, 1), (3, 1)] = true := by decide +kernel
theorem cT49_0 : (((smallOf [(1, 1), (3, 1)]).drop (2 * 0)).take 2).all (okS 2) = true := by decide +kernel
theorem cT49_1 : (((smallOf [(1, 1), (3, 1)]).drop (2 * 1)).take 2).all (okS 2) = true := by decide +kernel
theorem cT49_2 : (((smallOf [(1, 1), (3, 1)]).drop (2 * 2)).take 2).all (okS 2) = true := by decide +kernel
theorem cT49_3 : (((smallOf [(1, 1), (3, 1)]).drop (2 * 3)).take 2).all (okS 2) = true := by decide +kernel
theorem cT49_4 : (((smallOf [(1, 1), (3, 1)]).drop (2 * 4)).take 2).all (okS 2) = true := by decide +kernel
theorem cT49_5 : (((smallOf [(1, 1), (3, 1)]).drop (2 * 5)).take 2).all (okS 2) = true := by decide +kernel
theorem cT49_6 : (((smallOf [(1, 1), (3, 1)]).drop (2 * 6)).take 2).all (okS 2) = true := by decide +kernel
theorem cT49_7 : (((smallOf [(1, 1), (3, 1)]).drop (2 * 7)).take 2).all (okS 2) = true := by decide +kernel
theorem cT49_8 : (((smallOf [(1, 1), (3, 1)]).drop (2 * 8)).take 2).all (okS 2) = true := by decide +kernel
theorem cT49 : fT [(1, 1), (3, 1)] = true := fT_of (okT_of (n := 2) (by decide +kernel) (chunk 2 9 (by decide) (by decide +kernel) fun j hj => match j, hj with
  | 0, _ => cT49_0
  | 1, _ => cT49_1
  | 2, _ => cT49_2
  | 3, _ => cT49_3
  | 4, _ => cT49_4
  | 5, _ => cT49_5
  | 6, _ => cT49_6
  | 7, _ => cT49_7
  | 8, _ => cT49_8
  | j + 9, h => absurd h (by omega)))
theorem e50 : (canon.drop (1 * 50)).take 1 = [[(1, 1), (3, 1), (7, 1)]] := by decide +kernel
theorem cC50 : fC [(1, 1), (3, 1), (7, 1)] = true := by decide +kernel
theorem cT50 : fT [(1, 1), (3, 1), (7, 1)] = true := by decide +kernel
theorem e51 : (canon.drop (1 * 51)).take 1 = [[(1, 1), (3, 1), (6, 1)]] := by decide +kernel
theorem cC51 : fC [(1, 1), (3, 1), (6, 1)] = true := by decide +kernel
theorem cT51 : fT [(1, 1), (3, 1), (6, 1)] = true := by decide +kernel
theorem e52 : (canon.drop (1 * 52)).take 1 = [[(1, 1), (3, 1), (5, 1)]] := by decide +kernel
theorem cC52 : fC [(1, 1), (3, 1), (5, 1)] = true := by decide +kernel
theorem cT52 : fT [(1, 1), (3, 1), (5, 1)] = true := by decide +kernel
theorem e53 : (canon.drop (1 * 53)).take 1 = [[(1, 1), (3, 1), (4, 1)]] := by decide +kernel
theorem cC53 : fC [(1, 1), (3, 1), (4, 1)] = true := by decide +kernel
theorem cT53 : fT [(1, 1), (3, 1), (4, 1)] = true := by decide +kernel
theorem e54 : (canon.drop (1 * 54)).take 1 = [[(1, 1), (3, 2)]] := by decide +kernel
theorem cC54 : fC [(1, 1), (3, 2)] = true := by decide +kernel
theorem cT54 : fT [(1, 1), (3, 2)] = true := by decide +kernel
theorem e55 : (canon.drop (1 * 55)).take 1 = [[(1, 1), (2, 1)]] := by decide +kernel
theorem cC55 : fC [(1, 1), (2, 1)] = true := by decide +kernel
theorem cT55_0 : (((smallOf [(1, 1), (2, 1)]).drop (2 * 0)).take 2).all (okS 2) = true := by decide +kernel
theorem cT55_1 : (((smallOf [(1, 1), (2, 1)]).drop (2 * 1)).take 2).all (okS 2) = true := by decide +kernel
theorem cT55_2 : (((smallOf [(1, 1), (2, 1)]).drop (2 * 2)).take 2).all (okS 2) = true := by decide +kernel
theorem cT55_3 : (((smallOf [(1, 1), (2, 1)]).drop (2 * 3)).take 2).all (okS 2) = true := by decide +kernel
theorem cT55_4 : (((smallOf [(1, 1), (2, 1)]).drop (2 * 4)).take 2).all (okS 2) = true := by decide +kernel
theorem cT55_5 : (((smallOf [(1, 1), (2, 1)]).drop (2 * 5)).take 2).all (okS 2) = true := by decide +kernel
theorem cT55_6 : (((smallOf [(1, 1), (2, 1)]).drop (2 * 6)).take 2).all (okS 2) = true := by decide +kernel
theorem cT55_7 : (((smallOf [(1, 1), (2, 1)]).drop (2 * 7)).take 2).all (okS 2) = true := by decide +kernel
theorem cT55_8 : (((smallOf [(1, 1), (2, 1)]).drop (2 * 8)).take 2).all (okS 2) = true := by decide +kernel
theorem cT55 : fT [(1, 1), (2, 1)] = true := fT_of (okT_of (n := 2) (by decide +kernel) (chunk 2 9 (by decide) (by decide +kernel) fun j hj => match j, hj with
  | 0, _ => cT55_0
  | 1, _ => cT55_1
  | 2, _ => cT55_2
  | 3, _ => cT55_3
  | 4, _ => cT55_4
  | 5, _ => cT55_5
  | 6, _ => cT55_6
  | 7, _ => cT55_7
  | 8, _ => cT55_8
  | j + 9, h => absurd h (by omega)))
theorem e56 : (canon.drop (1 * 56)).take 1 = [[(1, 1), (2, 1), (7, 1)]] := by decide +kernel
theorem cC56 : fC [(1, 1), (2, 1), (7, 1)] = true := by decide +kernel
theorem cT56 : fT [(1, 1), (2, 1), (7, 1)] = true := by decide +kernel
theorem e57 : (canon.drop (1 * 57)).take 1 = [[(1, 1), (2, 1), (6, 1)]] := by decide +kernel
theorem cC57 : fC [(1, 1), (2, 1), (6, 1)] = true := by decide +kernel
theorem cT57 : fT [(1, 1), (2, 1), (6, 1)] = true := by decide +kernel
theorem e58 : (canon.drop (1 * 58)).take 1 = [[(1, 1), (2, 1), (5, 1)]] := by decide +kernel
theorem cC58 : fC [(1, 1), (2, 1), (5, 1)] = true := by decide +kernel
theorem cT58 : fT [(1, 1), (2, 1), (5, 1)] = true := by decide +kernel
theorem e59 : (canon.drop (1 * 59)).take 1 = [[(1, 1), (2, 1), (4, 1)]] := by decide +kernel
theorem cC59 : fC [(1, 1), (2, 1), (4, 1)] = true := by decide +kernel
theorem cT59 : fT [(1, 1), (2, 1), (4, 1)] = true := by decide +kernel
theorem e60 : (canon.drop (1 * 60)).take 1 = [[(1, 1), (2, 1), (3, 1)]] := by decide +kernel
theorem cC60 : fC [(1, 1), (2, 1), (3, 1)] = true := by decide +kernel
theorem cT60 : fT [(1, 1), (2, 1), (3, 1)] = true := by decide +kernel
theorem e61 : (canon.drop (1 * 61)).take 1 = [[(1, 1), (2, 2)]] := by decide +kernel
theorem cC61 : fC [(1, 1), (2, 2)] = true := by decide +kernel
theorem cT61 : fT [(1, 1), (2, 2)] = true := by decide +kernel
theorem e62 : (canon.drop (1 * 62)).take 1 = [[(1, 2)]] := by decide +kernel
theorem cC62 : fC [(1, 2)] = true := by decide +kernel
theorem cT62_0 : (((smallOf [(1, 2)]).drop (2 * 0)).take 2).all (okS 2) = true := by decide +kernel
theorem cT62_1 : (((smallOf [(1, 2)]).drop (2 * 1)).take 2).all (okS 2) = true := by decide +kernel
theorem cT62_2 : (((smallOf [(1, 2)]).drop (2 * 2)).take 2).all (okS 2) = true := by decide +kernel
theorem cT62_3 : (((smallOf [(1, 2)]).drop (2 * 3)).take 2).all (okS 2) = true := by decide +kernel
theorem cT62_4 : (((smallOf [(1, 2)]).drop (2 * 4)).take 2).all (okS 2) = true := by decide +kernel
theorem cT62_5 : (((smallOf [(1, 2)]).drop (2 * 5)).take 2).all (okS 2) = true := by decide +kernel
theorem cT62_6 : (((smallOf [(1, 2)]).drop (2 * 6)).take 2).all (okS 2) = true := by decide +kernel
theorem cT62_7 : (((smallOf [(1, 2)]).drop (2 * 7)).take 2).all (okS 2) = true := by decide +kernel
theorem cT62_8 : (((smallOf [(1, 2)]).drop (2 * 8)).take 2).all (okS 2) = true := by decide +kernel
theorem cT62 : fT [(1, 2)] = true := fT_of (okT_of (n := 2) (by decide +kernel) (chunk 2 9 (by decide) (by decide +kernel) fun j hj => match j, hj with
  | 0, _ => cT62_0
  | 1, _ => cT62_1
  | 2, _ => cT62_2
  | 3, _ => cT62_3
  | 4, _ => cT62_4
  | 5, _ => cT62_5
  | 6, _ => cT62_6
  | 7, _ => cT62_7
  | 8, _ => cT62_8
  | j + 9, h => absurd h (by omega)))
theorem e63 : (canon.drop (1 * 63)).take 1 = [[(1, 2), (7, 1)]] := by decide +kernel
theorem cC63 : fC [(1, 2), (7, 1)] = true := by decide +kernel
theorem cT63 : fT [(1, 2), (7, 1)] = true := by decide +kernel
theorem e64 : (canon.drop (1 * 64)).take 1 = [[(1, 2), (6, 1)]] := by decide +kernel
theorem cC64 : fC [(1, 2), (6, 1)] = true := by decide +kernel
theorem cT64 : fT [(1, 2), (6, 1)] = true := by decide +kernel
theorem e65 : (canon.drop (1 * 65)).take 1 = [[(1, 2), (5, 1)]] := by decide +kernel
theorem cC65 : fC [(1, 2), (5, 1)] = true := by decide +kernel
theorem cT65 : fT [(1, 2), (5, 1)] = true := by decide +kernel
theorem e66 : (canon.drop (1 * 66)).take 1 = [[(1, 2), (4, 1)]] := by decide +kernel
theorem cC66 : fC [(1, 2), (4, 1)] = true := by decide +kernel
theorem cT66 : fT [(1, 2), (4, 1)] = true := by decide +kernel
theorem e67 : (canon.drop (1 * 67)).take 1 = [[(1, 2), (3, 1)]] := by decide +kernel
theorem cC67 : fC [(1, 2), (3, 1)] = true := by decide +kernel
theorem cT67 : fT [(1, 2), (3, 1)] = true := by decide +kernel
theorem e68 : (canon.drop (1 * 68)).take 1 = [[(1, 2), (2, 1)]] := by decide +kernel
theorem cC68 : fC [(1, 2), (2, 1)] = true := by decide +kernel
theorem cT68 : fT [(1, 2), (2, 1)] = true := by decide +kernel
theorem e69 : (canon.drop (1 * 69)).take 1 = [[(1, 3)]] := by decide +kernel
theorem cC69 : fC [(1, 3)] = true := by decide +kernel
theorem cT69 : fT [(1, 3)] = true := by decide +kernel
theorem e70 : (canon.drop (1 * 70)).take 1 = [[(0, 1)]] := by decide +kernel
theorem cC70 : fC [(0, 1)] = true := by decide +kernel
theorem cT70_0 : (((smallOf [(0, 1)]).drop (2 * 0)).take 2).all (okS 1) = true := by decide +kernel
theorem cT70 : fT [(0, 1)] = true := fT_of (okT_of (n := 1) (by decide +kernel) (chunk 2 1 (by decide) (by decide +kernel) fun j hj => match j, hj with
  | 0, _ => cT70_0
  | j + 1, h => absurd h (by omega)))
theorem e71 : (canon.drop (1 * 71)).take 1 = [[(0, 1), (7, 1)]] := by decide +kernel
theorem cC71 : fC [(0, 1), (7, 1)] = true := by decide +kernel
theorem cT71 : fT [(0, 1), (7, 1)] = true := by decide +kernel
theorem e72 : (canon.drop (1 * 72)).take 1 = [[(0, 1), (6, 1)]] := by decide +kernel
theorem cC72 : fC [(0, 1), (6, 1)] = true := by decide +kernel
theorem cT72 : fT [(0, 1), (6, 1)] = true := by decide +kernel
theorem e73 : (canon.drop (1 * 73)).take 1 = [[(0, 1), (5, 1)]] := by decide +kernel
theorem cC73 : fC [(0, 1), (5, 1)] = true := by decide +kernel
theorem cT73 : fT [(0, 1), (5, 1)] = true := by decide +kernel
theorem e74 : (canon.drop (1 * 74)).take 1 = [[(0, 1), (4, 1)]] := by decide +kernel
theorem cC74 : fC [(0, 1), (4, 1)] = true := by decide +kernel
theorem cT74 : fT [(0, 1), (4, 1)] = true := by decide +kernel
theorem e75 : (canon.drop (1 * 75)).take 1 = [[(0, 1), (3, 1)]] := by decide +kernel
theorem cC75 : fC [(0, 1), (3, 1)] = true := by decide +kernel
theorem cT75_0 : (((smallOf [(0, 1), (3, 1)]).drop (2 * 0)).take 2).all (okS 2) = true := by decide +kernel
theorem cT75_1 : (((smallOf [(0, 1), (3, 1)]).drop (2 * 1)).take 2).all (okS 2) = true := by decide +kernel
theorem cT75_2 : (((smallOf [(0, 1), (3, 1)]).drop (2 * 2)).take 2).all (okS 2) = true := by decide +kernel
theorem cT75_3 : (((smallOf [(0, 1), (3, 1)]).drop (2 * 3)).take 2).all (okS 2) = true := by decide +kernel
theorem cT75_4 : (((smallOf [(0, 1), (3, 1)]).drop (2 * 4)).take 2).all (okS 2) = true := by decide +kernel
theorem cT75_5 : (((smallOf [(0, 1), (3, 1)]).drop (2 * 5)).take 2).all (okS 2) = true := by decide +kernel
theorem cT75_6 : (((smallOf [(0, 1), (3, 1)]).drop (2 * 6)).take 2).all (okS 2) = true := by decide +kernel
theorem cT75_7 : (((smallOf [(0, 1), (3, 1)]).drop (2 * 7)).take 2).all (okS 2) = true := by decide +kernel
theorem cT75_8 : (((smallOf [(0, 1), (3, 1)]).drop (2 * 8)).take 2).all (okS 2) = true := by decide +kernel
theorem cT75 : fT [(0, 1), (3, 1)] = true := fT_of (okT_of (n := 2) (by decide +kernel) (chunk 2 9 (by decide) (by decide +kernel) fun j hj => match j, hj with
  | 0, _ => cT75_0
  | 1, _ => cT75_1
  | 2, _ => cT75_2
  | 3, _ => cT75_3
  | 4, _ => cT75_4
  | 5, _ => cT75_5
  | 6, _ => cT75_6
  | 7, _ => cT75_7
  | 8, _ => cT75_8
  | j + 9, h => absurd h (by omega)))
theorem e76 : (canon.drop (1 * 76)).take 1 = [[(0, 1), (3, 1), (7, 1)]] := by decide +kernel
theorem cC76 : fC [(0, 1), (3, 1), (7, 1)] = true := by decide +kernel
theorem cT76 : fT [(0, 1), (3, 1), (7, 1)] = true := by decide +kernel
theorem e77 : (canon.drop (1 * 77)).take 1 = [[(0, 1), (3, 1), (6, 1)]] := by decide +kernel
theorem cC77 : fC [(0, 1), (3, 1), (6, 1)] = true := by decide +kernel
theorem cT77 : fT [(0, 1), (3, 1), (6, 1)] = true := by decide +kernel
theorem e78 : (canon.drop (1 * 78)).take 1 = [[(0, 1), (3, 1), (5, 1)]] := by decide +kernel
theorem cC78 : fC [(0, 1), (3, 1), (5, 1)] = true := by decide +kernel
theorem cT78 : fT [(0, 1), (3, 1), (5, 1)] = true := by decide +kernel
theorem e79 : (canon.drop (1 * 79)).take 1 = [[(0, 1), (3, 1), (4, 1)]] := by decide +kernel
theorem cC79 : fC [(0, 1), (3, 1), (4, 1)] = true := by decide +kernel
theorem cT79 : fT [(0, 1), (3, 1), (4, 1)] = true := by decide +kernel
theorem e80 : (canon.drop (1 * 80)).take 1 = [[(0, 1), (3, 2)]] := by decide +kernel
theorem cC80 : fC [(0, 1), (3, 2)] = true := by decide +kernel
theorem cT80 : fT [(0, 1), (3, 2)] = true := by decide +kernel
theorem e81 : (canon.drop (1 * 81)).take 1 = [[(0, 1), (2, 1)]] := by decide +kernel
theorem cC81 : fC [(0, 1), (2, 1)] = true := by decide +kernel
theorem cT81_0 : (((smallOf [(0, 1), (2, 1)]).drop (2 * 0)).take 2).all (okS 2) = true := by decide +kernel
theorem cT81_1 : (((smallOf [(0, 1), (2, 1)]).drop (2 * 1)).take 2).all (okS 2) = true := by decide +kernel
theorem cT81_2 : (((smallOf [(0, 1), (2, 1)]).drop (2 * 2)).take 2).all (okS 2) = true := by decide +kernel
theorem cT81_3 : (((smallOf [(0, 1), (2, 1)]).drop (2 * 3)).take 2).all (okS 2) = true := by decide +kernel
theorem cT81_4 : (((smallOf [(0, 1), (2, 1)]).drop (2 * 4)).take 2).all (okS 2) = true := by decide +kernel
theorem cT81_5 : (((smallOf [(0, 1), (2, 1)]).drop (2 * 5)).take 2).all (okS 2) = true := by decide +kernel
theorem cT81_6 : (((smallOf [(0, 1), (2, 1)]).drop (2 * 6)).take 2).all (okS 2) = true := by decide +kernel
theorem cT81_7 : (((smallOf [(0, 1), (2, 1)]).drop (2 * 7)).take 2).all (okS 2) = true := by decide +kernel
theorem cT81_8 : (((smallOf [(0, 1), (2, 1)]).drop (2 * 8)).take 2).all (okS 2) = true := by decide +kernel
theorem cT81 : fT [(0, 1), (2, 1)] = true := fT_of (okT_of (n := 2) (by decide +kernel) (chunk 2 9 (by decide) (by decide +kernel) fun j hj => match j, hj with
  | 0, _ => cT81_0
  | 1, _ => cT81_1
  | 2, _ => cT81_2
  | 3, _ => cT81_3
  | 4, _ => cT81_4
  | 5, _ => cT81_5
  | 6, _ => cT81_6
  | 7, _ => cT81_7
  | 8, _ => cT81_8
  | j + 9, h => absurd h (by omega)))
theorem e82 : (canon.drop (1 * 82)).take 1 = [[(0, 1), (2, 1), (7, 1)]] := by decide +kernel
theorem cC82 : fC [(0, 1), (2, 1), (7, 1)] = true := by decide +kernel
theorem cT82 : fT [(0, 1), (2, 1), (7, 1)] = true := by decide +kernel
theorem e83 : (canon.drop (1 * 83)).take 1 = [[(0, 1), (2, 1), (6, 1)]] := by decide +kernel
theorem cC83 : fC [(0, 1), (2, 1), (6, 1)] = true := by decide +kernel
theorem cT83 : fT [(0, 1), (2, 1), (6, 1)] = true := by decide +kernel
theorem e84 : (canon.drop (1 * 84)).take 1 = [[(0, 1), (2, 1), (5, 1)]] := by decide +kernel
theorem cC84 : fC [(0, 1), (2, 1), (5, 1)] = true := by decide +kernel
theorem cT84 : fT [(0, 1), (2, 1), (5, 1)] = true := by decide +kernel
theorem e85 : (canon.drop (1 * 85)).take 1 = [[(0, 1), (2, 1), (4, 1)]] := by decide +kernel
theorem cC85 : fC [(0, 1), (2, 1), (4, 1)] = true := by decide +kernel
theorem cT85 : fT [(0, 1), (2, 1), (4, 1)] = true := by decide +kernel
theorem e86 : (canon.drop (1 * 86)).take 1 = [[(0, 1), (2, 1), (3, 1)]] := by decide +kernel
theorem cC86 : fC [(0, 1), (2, 1), (3, 1)] = true := by decide +kernel
theorem cT86 : fT [(0, 1), (2, 1), (3, 1)] = true := by decide +kernel
theorem e87 : (canon.drop (1 * 87)).take 1 = [[(0, 1), (2, 2)]] := by decide +kernel
theorem cC87 : fC [(0, 1), (2, 2)] = true := by decide +kernel
theorem cT87 : fT [(0, 1), (2, 2)] = true := by decide +kernel
theorem e88 : (canon.drop (1 * 88)).take 1 = [[(0, 1), (1, 1)]] := by decide +kernel
theorem cC88 : fC [(0, 1), (1, 1)] = true := by decide +kernel
theorem cT88_0 : (((smallOf [(0, 1), (1, 1)]).drop (2 * 0)).take 2).all (okS 2) = true := by decide +kernel
theorem cT88_1 : (((smallOf [(0, 1), (1, 1)]).drop (2 * 1)).take 2).all (okS 2) = true := by decide +kernel
theorem cT88_2 : (((smallOf [(0, 1), (1, 1)]).drop (2 * 2)).take 2).all (okS 2) = true := by decide +kernel
theorem cT88_3 : (((smallOf [(0, 1), (1, 1)]).drop (2 * 3)).take 2).all (okS 2) = true := by decide +kernel
theorem cT88_4 : (((smallOf [(0, 1), (1, 1)]).drop (2 * 4)).take 2).all (okS 2) = true := by decide +kernel
theorem cT88_5 : (((smallOf [(0, 1), (1, 1)]).drop (2 * 5)).take 2).all (okS 2) = true := by decide +kernel
theorem cT88_6 : (((smallOf [(0, 1), (1, 1)]).drop (2 * 6)).take 2).all (okS 2) = true := by decide +kernel
theorem cT88_7 : (((smallOf [(0, 1), (1, 1)]).drop (2 * 7)).take 2).all (okS 2) = true := by decide +kernel
theorem cT88_8 : (((smallOf [(0, 1), (1, 1)]).drop (2 * 8)).take 2).all (okS 2) = true := by decide +kernel
theorem cT88 : fT [(0, 1), (1, 1)] = true := fT_of (okT_of (n := 2) (by decide +kernel) (chunk 2 9 (by decide) (by decide +kernel) fun j hj => match j, hj with
  | 0, _ => cT88_0
  | 1, _ => cT88_1
  | 2, _ => cT88_2
  | 3, _ => cT88_3
  | 4, _ => cT88_4
  | 5, _ => cT88_5
  | 6, _ => cT88_6
  | 7, _ => cT88_7
  | 8, _ => cT88_8
  | j + 9, h => absurd h (by omega)))
theorem e89 : (canon.drop (1 * 89)).take 1 = [[(0, 1), (1, 1), (7, 1)]] := by decide +kernel
theorem cC89 : fC [(0, 1), (1, 1), (7, 1)] = true := by decide +kernel
theorem cT89 : fT [(0, 1), (1, 1), (7, 1)] = true := by decide +kernel
theorem e90 : (canon.drop (1 * 90)).take 1 = [[(0, 1), (1, 1), (6, 1)]] := by decide +kernel
theorem cC90 : fC [(0, 1), (1, 1), (6, 1)] = true := by decide +kernel
theorem cT90 : fT [(0, 1), (1, 1), (6, 1)] = true := by decide +kernel
theorem e91 : (canon.drop (1 * 91)).take 1 = [[(0, 1), (1, 1), (5, 1)]] := by decide +kernel
theorem cC91 : fC [(0, 1), (1, 1), (5, 1)] = true := by decide +kernel
theorem cT91 : fT [(0, 1), (1, 1), (5, 1)] = true := by decide +kernel
theorem e92 : (canon.drop (1 * 92)).take 1 = [[(0, 1), (1, 1), (4, 1)]] := by decide +kernel
theorem cC92 : fC [(0, 1), (1, 1), (4, 1)] = true := by decide +kernel
theorem cT92 : fT [(0, 1), (1, 1), (4, 1)] = true := by decide +kernel
theorem e93 : (canon.drop (1 * 93)).take 1 = [[(0, 1), (1, 1), (3, 1)]] := by decide +kernel
theorem cC93 : fC [(0, 1), (1, 1), (3, 1)] = true := by decide +kernel
theorem cT93 : fT [(0, 1), (1, 1), (3, 1)] = true := by decide +kernel
theorem e94 : (canon.drop (1 * 94)).take 1 = [[(0, 1), (1, 1), (2, 1)]] := by decide +kernel
theorem cC94 : fC [(0, 1), (1, 1), (2, 1)] = true := by decide +kernel
theorem cT94 : fT [(0, 1), (1, 1), (2, 1)] = true := by decide +kernel
theorem e95 : (canon.drop (1 * 95)).take 1 = [[(0, 1), (1, 2)]] := by decide +kernel
theorem cC95 : fC [(0, 1), (1, 2)] = true := by decide +kernel
theorem cT95 : fT [(0, 1), (1, 2)] = true := by decide +kernel
theorem e96 : (canon.drop (1 * 96)).take 1 = [[(0, 2)]] := by decide +kernel
theorem cC96 : fC [(0, 2)] = true := by decide +kernel
theorem cT96_0 : (((smallOf [(0, 2)]).drop (2 * 0)).take 2).all (okS 2) = true := by decide +kernel
theorem cT96_1 : (((smallOf [(0, 2)]).drop (2 * 1)).take 2).all (okS 2) = true := by decide +kernel
theorem cT96_2 : (((smallOf [(0, 2)]).drop (2 * 2)).take 2).all (okS 2) = true := by decide +kernel
theorem cT96_3 : (((smallOf [(0, 2)]).drop (2 * 3)).take 2).all (okS 2) = true := by decide +kernel
theorem cT96_4 : (((smallOf [(0, 2)]).drop (2 * 4)).take 2).all (okS 2) = true := by decide +kernel
theorem cT96_5 : (((smallOf [(0, 2)]).drop (2 * 5)).take 2).all (okS 2) = true := by decide +kernel
theorem cT96_6 : (((smallOf [(0, 2)]).drop (2 * 6)).take 2).all (okS 2) = true := by decide +kernel
theorem cT96_7 : (((smallOf [(0, 2)]).drop (2 * 7)).take 2).all (okS 2) = true := by decide +kernel
theorem cT96_8 : (((smallOf [(0, 2)]).drop (2 * 8)).take 2).all (okS 2) = true := by decide +kernel
theorem cT96 : fT [(0, 2)] = true := fT_of (okT_of (n := 2) (by decide +kernel) (chunk 2 9 (by decide) (by decide +kernel) fun j hj => match j, hj with
  | 0, _ => cT96_0
  | 1, _ => cT96_1
  | 2, _ => cT96_2
  | 3, _ => cT96_3
  | 4, _ => cT96_4
  | 5, _ => cT96_5
  | 6, _ => cT96_6
  | 7, _ => cT96_7
  | 8, _ => cT96_8
  | j + 9, h => absurd h (by omega)))
theorem e97 : (canon.drop (1 * 97)).take 1 = [[(0, 2), (7, 1)]] := by decide +kernel
theorem cC97 : fC [(0, 2), (7, 1)] = true := by decide +kernel
theorem cT97 : fT [(0, 2), (7, 1)] = true := by decide +kernel
theorem e98 : (canon.drop (1 * 98)).take 1 = [[(0, 2), (6, 1)]] := by decide +kernel
theorem cC98 : fC [(0, 2), (6, 1)] = true := by decide +kernel
theorem cT98 : fT [(0, 2), (6, 1)] = true := by decide +kernel
theorem e99 : (canon.drop (1 * 99)).take 1 = [[(0, 2), (5, 1)]] := by decide +kernel
theorem cC99 : fC [(0, 2), (5, 1)] = true := by decide +kernel
theorem cT99 : fT [(0, 2), (5, 1)] = true := by decide +kernel
theorem e100 : (canon.drop (1 * 100)).take 1 = [[(0, 2), (4, 1)]] := by decide +kernel
theorem cC100 : fC [(0, 2), (4, 1)] = true := by decide +kernel
theorem cT100 : fT [(0, 2), (4, 1)] = true := by decide +kernel
theorem e101 : (canon.drop (1 * 101)).take 1 = [[(0, 2), (3, 1)]] := by decide +kernel
theorem cC101 : fC [(0, 2), (3, 1)] = true := by decide +kernel
theorem cT101 : fT [(0, 2), (3, 1)] = true := by decide +kernel
theorem e102 : (canon.drop (1 * 102)).take 1 = [[(0, 2), (2, 1)]] := by decide +kernel
theorem cC102 : fC [(0, 2), (2, 1)] = true := by decide +kernel
theorem cT102 : fT [(0, 2), (2, 1)] = true := by decide +kernel
theorem e103 : (canon.drop (1 * 103)).take 1 = [[(0, 2), (1, 1)]] := by decide +kernel
theorem cC103 : fC [(0, 2), (1, 1)] = true := by decide +kernel
theorem cT103 : fT [(0, 2), (1, 1)] = true := by decide +kernel
theorem e104 : (canon.drop (1 * 104)).take 1 = [[(0, 3)]] := by decide +kernel
theorem cC104 : fC [(0, 3)] = true := by decide +kernel
theorem cT104 : fT [(0, 3)] = true := by decide +kernel
theorem allC : ∀ l ∈ canon, l.isEmpty = true ∨ okC l = true := fun l hl => by
  have := chunk (f := fC) 1 105 (by decide) (by rw [canon_len]; decide) (fun j hj => match j, hj with
    | 0, _ => one_of e0 cC0
    | 1, _ => one_of e1 cC1
    | 2, _ => one_of e2 cC2
    | 3, _ => one_of e3 cC3
    | 4, _ => one_of e4 cC4
    | 5, _ => one_of e5 cC5
    | 6, _ => one_of e6 cC6
    | 7, _ => one_of e7 cC7
    | 8, _ => one_of e8 cC8
    | 9, _ => one_of e9 cC9
    | 10, _ => one_of e10 cC10
    | 11, _ => one_of e11 cC11
    | 12, _ => one_of e12 cC12
    | 13, _ => one_of e13 cC13
    | 14, _ => one_of e14 cC14
    | 15, _ => one_of e15 cC15
    | 16, _ => one_of e16 cC16
    | 17, _ => one_of e17 cC17
    | 18, _ => one_of e18 cC18
    | 19, _ => one_of e19 cC19
    | 20, _ => one_of e20 cC20
    | 21, _ => one_of e21 cC21
    | 22, _ => one_of e22 cC22
    | 23, _ => one_of e23 cC23
    | 24, _ => one_of e24 cC24
    | 25, _ => one_of e25 cC25
    | 26, _ => one_of e26 cC26
    | 27, _ => one_of e27 cC27
    | 28, _ => one_of e28 cC28
    | 29, _ => one_of e29 cC29
    | 30, _ => one_of e30 cC30
    | 31, _ => one_of e31 cC31
    | 32, _ => one_of e32 cC32
    | 33, _ => one_of e33 cC33
    | 34, _ => one_of e34 cC34
    | 35, _ => one_of e35 cC35
    | 36, _ => one_of e36 cC36
    | 37, _ => one_of e37 cC37
    | 38, _ => one_of e38 cC38
    | 39, _ => one_of e39 cC39
    | 40, _ => one_of e40 cC40
    | 41, _ => one_of e41 cC41
    | 42, _ => one_of e42 cC42
    | 43, _ => one_of e43 cC43
    | 44, _ => one_of e44 cC44
    | 45, _ => one_of e45 cC45
    | 46, _ => one_of e46 cC46
    | 47, _ => one_of e47 cC47
    | 48, _ => one_of e48 cC48
    | 49, _ => one_of e49 cC49
    | 50, _ => one_of e50 cC50
    | 51, _ => one_of e51 cC51
    | 52, _ => one_of e52 cC52
    | 53, _ => one_of e53 cC53
    | 54, _ => one_of e54 cC54
    | 55, _ => one_of e55 cC55
    | 56, _ => one_of e56 cC56
    | 57, _ => one_of e57 cC57
    | 58, _ => one_of e58 cC58
    | 59, _ => one_of e59 cC59
    | 60, _ => one_of e60 cC60
    | 61, _ => one_of e61 cC61
    | 62, _ => one_of e62 cC62
    | 63, _ => one_of e63 cC63
    | 64, _ => one_of e64 cC64
    | 65, _ => one_of e65 cC65
    | 66, _ => one_of e66 cC66
    | 67, _ => one_of e67 cC67
    | 68, _ => one_of e68 cC68
    | 69, _ => one_of e69 cC69
    | 70, _ => one_of e70 cC70
    | 71, _ => one_of e71 cC71
    | 72, _ => one_of e72 cC72
    | 73, _ => one_of e73 cC73
    | 74, _ => one_of e74 cC74
    | 75, _ => one_of e75 cC75
    | 76, _ => one_of e76 cC76
    | 77, _ => one_of e77 cC77
    | 78, _ => one_of e78 cC78
    | 79, _ => one_of e79 cC79
    | 80, _ => one_of e80 cC80
    | 81, _ => one_of e81 cC81
    | 82, _ => one_of e82 cC82
    | 83, _ => one_of e83 cC83
    | 84, _ => one_of e84 cC84
    | 85, _ => one_of e85 cC85
    | 86, _ => one_of e86 cC86
    | 87, _ => one_of e87 cC87
    | 88, _ => one_of e88 cC88
    | 89, _ => one_of e89 cC89
    | 90, _ => one_of e90 cC90
    | 91, _ => one_of e91 cC91
    | 92, _ => one_of e92 cC92
    | 93, _ => one_of e93 cC93
    | 94, _ => one_of e94 cC94
    | 95, _ => one_of e95 cC95
    | 96, _ => one_of e96 cC96
    | 97, _ => one_of e97 cC97
    | 98, _ => one_of e98 cC98
    | 99, _ => one_of e99 cC99
    | 100, _ => one_of e100 cC100
    | 101, _ => one_of e101 cC101
    | 102, _ => one_of e102 cC102
    | 103, _ => one_of e103 cC103
    | 104, _ => one_of e104 cC104
    | j + 105, h => absurd h (by omega)) l hl
  exact Bool.or_eq_true_iff.mp this
theorem allT : ∀ l ∈ canon, l.isEmpty = true ∨ okT l = true := fun l hl => by
  have := chunk (f := fT) 1 105 (by decide) (by rw [canon_len]; decide) (fun j hj => match j, hj with
    | 0, _ => one_of e0 cT0
    | 1, _ => one_of e1 cT1
    | 2, _ => one_of e2 cT2
    | 3, _ => one_of e3 cT3
    | 4, _ => one_of e4 cT4
    | 5, _ => one_of e5 cT5
    | 6, _ => one_of e6 cT6
    | 7, _ => one_of e7 cT7
    | 8, _ => one_of e8 cT8
    | 9, _ => one_of e9 cT9
    | 10, _ => one_of e10 cT10
    | 11, _ => one_of e11 cT11
    | 12, _ => one_of e12 cT12
    | 13, _ => one_of e13 cT13
    | 14, _ => one_of e14 cT14
    | 15, _ => one_of e15 cT15
    | 16, _ => one_of e16 cT16
    | 17, _ => one_of e17 cT17
    | 18, _ => one_of e18 cT18
    | 19, _ => one_of e19 cT19
    | 20, _ => one_of e20 cT20
    | 21, _ => one_of e21 cT21
    | 22, _ => one_of e22 cT22
    | 23, _ => one_of e23 cT23
    | 24, _ => one_of e24 cT24
    | 25, _ => one_of e25 cT25
    | 26, _ => one_of e26 cT26
    | 27, _ => one_of e27 cT27
    | 28, _ => one_of e28 cT28
    | 29, _ => one_of e29 cT29
    | 30, _ => one_of e30 cT30
    | 31, _ => one_of e31 cT31
    | 32, _ => one_of e32 cT32
    | 33, _ => one_of e33 cT33
    | 34, _ => one_of e34 cT34
    | 35, _ => one_of e35 cT35
    | 36, _ => one_of e36 cT36
    | 37, _ => one_of e37 cT37
    | 38, _ => one_of e38 cT38
    | 39, _ => one_of e39 cT39
    | 40, _ => one_of e40 cT40
    | 41, _ => one_of e41 cT41
    | 42, _ => one_of e42 cT42
    | 43, _ => one_of e43 cT43
    | 44, _ => one_of e44 cT44
    | 45, _ => one_of e45 cT45
    | 46, _ => one_of e46 cT46
    | 47, _ => one_of e47 cT47
    | 48, _ => one_of e48 cT48
    | 49, _ => one_of e49 cT49
    | 50, _ => one_of e50 cT50
    | 51, _ => one_of e51 cT51
    | 52, _ => one_of e52 cT52
    | 53, _ => one_of e53 cT53
    | 54, _ => one_of e54 cT54
    | 55, _ => one_of e55 cT55
    | 56, _ => one_of e56 cT56
    | 57, _ => one_of e57 cT57
    | 58, _ => one_of e58 cT58
    | 59, _ => one_of e59 cT59
    | 60, _ => one_of e60 cT60
    | 61, _ => one_of e61 cT61
    | 62, _ => one_of e62 cT62
    | 63, _ => one_of e63 cT63
    | 64, _ => one_of e64 cT64
    | 65, _ => one_of e65 cT65
    | 66, _ => one_of e66 cT66
    | 67, _ => one_of e67 cT67
    | 68, _ => one_of e68 cT68
    | 69, _ => one_of e69 cT69
    | 70, _ => one_of e70 cT70
    | 71, _ => one_of e71 cT71
    | 72, _ => one_of e72 cT72
    | 73, _ => one_of e73 cT73
    | 74, _ => one_of e74 cT74
    | 75, _ => one_of e75 cT75
    | 76, _ => one_of e76 cT76
    | 77, _ => one_of e77 cT77
    | 78, _ => one_of e78 cT78
    | 79, _ => one_of e79 cT79
    | 80, _ => one_of e80 cT80
    | 81, _ => one_of e81 cT81
    | 82, _ => one_of e82 cT82
    | 83, _ => one_of e83 cT83
    | 84, _ => one_of e84 cT84
    | 85, _ => one_of e85 cT85
    | 86, _ => one_of e86 cT86
    | 87, _ => one_of e87 cT87
    | 88, _ => one_of e88 cT88
    | 89, _ => one_of e89 cT89
    | 90, _ => one_of e90 cT90
    | 91, _ => one_of e91 cT91
    | 92, _ => one_of e92 cT92
    | 93, _ => one_of e93 cT93
    | 94, _ => one_of e94 cT94
    | 95, _ => one_of e95 cT95
    | 96, _ => one_of e96 cT96
    | 97, _ => one_of e97 cT97
    | 98, _ => one_of e98 cT98
    | 99, _ => one_of e99 cT99
    | 100, _ => one_of e100 cT100
    | 101, _ => one_of e101 cT101
    | 102, _ => one_of e102 cT102
    | 103, _ => one_of e103 cT103
    | 104, _ => one_of e104 cT104
    | j + 105, h => absurd h (by omega)) l hl
  exact Bool.or_eq_true_iff.mp this
theorem plain_law : PlainLaw := plain allC allT
end PL
theorem PySem.Challenge.cw_tracewords_k02_whole_houses_of_blocks_holds : PySem.Challenge.rw_tracewords_k02_whole_houses_of_blocks.Holds := by
  exact fin_holds PL.plain_law
