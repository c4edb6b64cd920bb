import PyProof.Rows.All
import KE.KDictSum
import KE.KEqDict
import KE.KSort
import KE.KRevSl
import Wide.FinOn
import OpenK.AllK
import Wide.All
import Lean
import PySem.Challenge.RW_rg0328_01

noncomputable section
open PySem PySem.W PyProof.Rows
set_option Elab.async false
set_option maxRecDepth 100000
set_option maxHeartbeats 0
namespace Mine
/-! the top's end: what lies in the heap, by the text's own defs -/
noncomputable abbrev pw : Program := PySem.Challenge.pw_rg0328_01
noncomputable def topSt (i : Nat) : Option Stmt := pw.main.body[i]?
noncomputable def methSt (i j : Nat) : Option Stmt := match topSt i with
  | some (.ClassDef _ _ _ body _ _ _ _ _ _ _) => body[j]?
  | _ => none
noncomputable def fnOf (st : Option Stmt) (n q : Str) (dv md cd : Value) : Obj := match st with
  | some (.FunctionDef _ args body _ _ _ scope _ _ _) => Obj.mk (.type "function") none (.func ⟨n, q, args, .stmts body, scope, 3, [], dv, .none, .none, md, none, cd, .none, 0⟩) #[]
  | _ => Obj.mk .none none (.seq #[] 0) #[]
noncomputable def hd.heap_39 (P : Params) : Frag := [
  (3, (Obj.mk (Value.type "dict") (none) (Data.dict #[DictEntry.mk (PyData.keyHash P (Str.ofString "__name__")) (Value.str (Str.ofString "__name__") 165) (Value.str (Str.ofString "law_rg0328_01") 530), DictEntry.mk (PyData.keyHash P (Str.ofString "__doc__")) (Value.str (Str.ofString "__doc__") 166) Value.none, DictEntry.mk (PyData.keyHash P (Str.ofString "__package__")) (Value.str (Str.ofString "__package__") 167) Value.none, DictEntry.mk (PyData.keyHash P (Str.ofString "__loader__")) (Value.str (Str.ofString "__loader__") 168) (Value.builtin "__main__.__loader__#opaque"), DictEntry.mk (PyData.keyHash P (Str.ofString "__spec__")) (Value.str (Str.ofString "__spec__") 169) Value.none, DictEntry.mk (PyData.keyHash P (Str.ofString "__annotations__")) (Value.str (Str.ofString "__annotations__") 170) (Value.ref 6), DictEntry.mk (PyData.keyHash P (Str.ofString "__builtins__")) (Value.str (Str.ofString "__builtins__") 171) (Value.ref 4), DictEntry.mk (PyData.keyHash P (Str.ofString "__file__")) (Value.str (Str.ofString "__file__") 173) (Value.str (Str.ofString "/claim/cut.py") 172), DictEntry.mk (PyData.keyHash P (Str.ofString "__cached__")) (Value.str (Str.ofString "__cached__") 174) Value.none, DictEntry.mk (PyData.keyHash P (Str.ofString "_wall")) (Value.str (Str.ofString "_wall") 193) (Value.ref 21), DictEntry.mk (PyData.keyHash P (Str.ofString "MAX_CODE")) (Value.str (Str.ofString "MAX_CODE") 197) (Value.int 1114111 196), DictEntry.mk (PyData.keyHash P (Str.ofString "place_by_half")) (Value.str (Str.ofString "place_by_half") 208) (Value.ref 28), DictEntry.mk (PyData.keyHash P (Str.ofString "range_are_like")) (Value.str (Str.ofString "range_are_like") 216) (Value.ref 33), DictEntry.mk (PyData.keyHash P (Str.ofString "RangeMap")) (Value.str (Str.ofString "RangeMap") 284) (Value.ref 76), DictEntry.mk (PyData.keyHash P (Str.ofString "range_rows")) (Value.str (Str.ofString "range_rows") 296) (Value.ref 87), DictEntry.mk (PyData.keyHash P (Str.ofString "fold_of")) (Value.str (Str.ofString "fold_of") 309) (Value.ref 94), DictEntry.mk (PyData.keyHash P (Str.ofString "fold_statuses")) (Value.str (Str.ofString "fold_statuses") 318) (Value.ref 101), DictEntry.mk (PyData.keyHash P (Str.ofString "fold_by")) (Value.str (Str.ofString "fold_by") 329) (Value.ref 108), DictEntry.mk (PyData.keyHash P (Str.ofString "fold_full")) (Value.str (Str.ofString "fold_full") 338) (Value.ref 116), DictEntry.mk (PyData.keyHash P (Str.ofString "caseless_default")) (Value.str (Str.ofString "caseless_default") 347) (Value.ref 124), DictEntry.mk (PyData.keyHash P (Str.ofString "matches_default")) (Value.str (Str.ofString "matches_default") 357) (Value.ref 132), DictEntry.mk (PyData.keyHash P (Str.ofString "FoldIndex")) (Value.str (Str.ofString "FoldIndex") 460) (Value.ref 199), DictEntry.mk (PyData.keyHash P (Str.ofString "data_defaults")) (Value.str (Str.ofString "data_defaults") 470) (Value.ref 210), DictEntry.mk (PyData.keyHash P (Str.ofString "Data")) (Value.str (Str.ofString "Data") 529) (Value.ref 248), DictEntry.mk (PyData.keyHash P (Str.ofString "_law_letters")) (Value.str (Str.ofString "_law_letters") 538) (Value.ref 253), DictEntry.mk (PyData.keyHash P (Str.ofString "_law_known")) (Value.str (Str.ofString "_law_known") 558) (Value.ref 254), DictEntry.mk (PyData.keyHash P (Str.ofString "_law_turn")) (Value.str (Str.ofString "_law_turn") 567) (Value.ref 261), DictEntry.mk (PyData.keyHash P (Str.ofString "_law_told")) (Value.str (Str.ofString "_law_told") 573) (Value.ref 266), DictEntry.mk (PyData.keyHash P (Str.ofString "_law_fold")) (Value.str (Str.ofString "_law_fold") 584) (Value.ref 273), DictEntry.mk (PyData.keyHash P (Str.ofString "_law_alike")) (Value.str (Str.ofString "_law_alike") 590) (Value.ref 278), DictEntry.mk (PyData.keyHash P (Str.ofString "_law_texts")) (Value.str (Str.ofString "_law_texts") 596) (Value.ref 283), DictEntry.mk (PyData.keyHash P (Str.ofString "_law_exchanged")) (Value.str (Str.ofString "_law_exchanged") 609) (Value.ref 290), DictEntry.mk (PyData.keyHash P (Str.ofString "_law_is_read")) (Value.str (Str.ofString "_law_is_read") 615) (Value.ref 295), DictEntry.mk (PyData.keyHash P (Str.ofString "law")) (Value.str (Str.ofString "law") 621) (Value.ref 300)] 34) (#[]))),
  (27, (Obj.mk (Value.type "code") (none) (Data.fields #[Value.str (Str.ofString "place_by_half") 198, Value.str (Str.ofString "place_by_half") 199, Value.str (Str.ofString "/claim/cut.py") 200, Value.int 6 0, Value.int 2 0, Value.int 0 0, Value.int 0 0, Value.int 3 0, Value.ref 22, Value.bool true, Value.int 181 0, Value.ref 23, Value.none, Value.ref 24, Value.ref 25, Value.ref 26, Value.int 206 0, Value.int 6 0, Value.str (Str.ofString "/claim/cut.py") 207]) (#[]))),
  (28, fnOf (topSt 3) (Str.ofString "place_by_half") (Str.ofString "place_by_half") (Value.none) (Value.str (Str.ofString "unicore.base") 194) (Value.ref 27)),
  (32, (Obj.mk (Value.type "code") (none) (Data.fields #[Value.str (Str.ofString "range_are_like") 211, Value.str (Str.ofString "range_are_like") 212, Value.str (Str.ofString "/claim/cut.py") 213, Value.int 17 0, Value.int 2 0, Value.int 0 0, Value.int 0 0, Value.int 3 0, Value.ref 29, Value.bool true, Value.int 181 0, Value.ref 30, Value.none, Value.none, Value.none, Value.ref 31, Value.int 214 0, Value.int 17 0, Value.str (Str.ofString "/claim/cut.py") 215]) (#[]))),
  (33, fnOf (topSt 5) (Str.ofString "range_are_like") (Str.ofString "range_are_like") (Value.none) (Value.str (Str.ofString "unicore.ranges") 209) (Value.ref 32)),
  (46, (Obj.mk (Value.type "code") (none) (Data.fields #[Value.str (Str.ofString "__init__") 229, Value.str (Str.ofString "RangeMap.__init__") 230, Value.str (Str.ofString "/claim/cut.py") 231, Value.int 23 0, Value.int 2 0, Value.int 0 0, Value.int 0 0, Value.int 3 0, Value.ref 41, Value.bool true, Value.int 181 0, Value.ref 42, Value.none, Value.ref 43, Value.ref 44, Value.ref 45, Value.int 234 0, Value.int 23 0, Value.str (Str.ofString "/claim/cut.py") 235]) (#[]))),
  (47, fnOf (methSt 6 0) (Str.ofString "__init__") (Str.ofString "RangeMap.__init__") (Value.none) (Value.str (Str.ofString "unicore.ranges") 209) (Value.ref 46)),
  (53, (Obj.mk (Value.type "code") (none) (Data.fields #[Value.str (Str.ofString "get") 237, Value.str (Str.ofString "RangeMap.get") 238, Value.str (Str.ofString "/claim/cut.py") 239, Value.int 28 0, Value.int 2 0, Value.int 0 0, Value.int 0 0, Value.int 3 0, Value.ref 48, Value.bool true, Value.int 181 0, Value.ref 49, Value.none, Value.ref 50, Value.ref 51, Value.ref 52, Value.int 242 0, Value.int 28 0, Value.str (Str.ofString "/claim/cut.py") 243]) (#[]))),
  (54, fnOf (methSt 6 1) (Str.ofString "get") (Str.ofString "RangeMap.get") (Value.none) (Value.str (Str.ofString "unicore.ranges") 209) (Value.ref 53)),
  (60, (Obj.mk (Value.type "code") (none) (Data.fields #[Value.str (Str.ofString "put") 245, Value.str (Str.ofString "RangeMap.put") 246, Value.str (Str.ofString "/claim/cut.py") 247, Value.int 31 0, Value.int 4 0, Value.int 0 0, Value.int 0 0, Value.int 3 0, Value.ref 55, Value.bool true, Value.int 181 0, Value.ref 56, Value.none, Value.ref 57, Value.ref 58, Value.ref 59, Value.int 257 0, Value.int 31 0, Value.str (Str.ofString "/claim/cut.py") 258]) (#[]))),
  (61, fnOf (methSt 6 2) (Str.ofString "put") (Str.ofString "RangeMap.put") (Value.none) (Value.str (Str.ofString "unicore.ranges") 209) (Value.ref 60)),
  (65, (Obj.mk (Value.type "code") (none) (Data.fields #[Value.str (Str.ofString "ranges") 260, Value.str (Str.ofString "RangeMap.ranges") 261, Value.str (Str.ofString "/claim/cut.py") 262, Value.int 47 0, Value.int 1 0, Value.int 0 0, Value.int 0 0, Value.int 3 0, Value.ref 62, Value.bool true, Value.int 181 0, Value.ref 63, Value.none, Value.none, Value.none, Value.ref 64, Value.int 263 0, Value.int 47 0, Value.str (Str.ofString "/claim/cut.py") 264]) (#[]))),
  (66, fnOf (methSt 6 3) (Str.ofString "ranges") (Str.ofString "RangeMap.ranges") (Value.none) (Value.str (Str.ofString "unicore.ranges") 209) (Value.ref 65)),
  (75, (Obj.mk (Value.type "dict") (none) (Data.dict #[DictEntry.mk (PyData.keyHash P (Str.ofString "__module__")) (Value.str (Str.ofString "__module__") 224) (Value.str (Str.ofString "unicore.ranges") 209), DictEntry.mk (PyData.keyHash P (Str.ofString "__firstlineno__")) (Value.str (Str.ofString "__firstlineno__") 228) (Value.int 21 227), DictEntry.mk (PyData.keyHash P (Str.ofString "__init__")) (Value.str (Str.ofString "__init__") 236) (Value.ref 47), DictEntry.mk (PyData.keyHash P (Str.ofString "get")) (Value.str (Str.ofString "get") 244) (Value.ref 54), DictEntry.mk (PyData.keyHash P (Str.ofString "put")) (Value.str (Str.ofString "put") 259) (Value.ref 61), DictEntry.mk (PyData.keyHash P (Str.ofString "ranges")) (Value.str (Str.ofString "ranges") 265) (Value.ref 66), DictEntry.mk (PyData.keyHash P (Str.ofString "set_of")) (Value.str (Str.ofString "set_of") 273) (Value.ref 73), DictEntry.mk (PyData.keyHash P (Str.ofString "__static_attributes__")) (Value.str (Str.ofString "__static_attributes__") 277) (Value.ref 74), DictEntry.mk (PyData.keyHash P (Str.ofString "__dict__")) (Value.str (Str.ofString "__dict__") 279) (Value.ref 77), DictEntry.mk (PyData.keyHash P (Str.ofString "__weakref__")) (Value.str (Str.ofString "__weakref__") 281) (Value.ref 78), DictEntry.mk (PyData.keyHash P (Str.ofString "__doc__")) (Value.str (Str.ofString "__doc__") 282) Value.none] 4) (#[]))),
  (76, (Obj.mk (Value.type "type") (none) (Data.cls (ClassData.mk (Str.ofString "RangeMap") [Value.type "object"] [Value.ref 76, Value.type "object"] 75 (Str.ofString "RangeMap") true [] [] false none false)) (#[none, none, some (Value.str (Str.ofString "RangeMap") 217), some (Value.str (Str.ofString "RangeMap") 225), some (Value.builtin "object.__new__"), some (Value.bool true)]))),
  (77, (Obj.mk (Value.type "getset_descriptor") (none) (Data.fields #[Value.str (Str.ofString "__dict__") 278, Value.ref 76, Value.builtin "function.__dict__", Value.builtin "function.__dict__#set"]) (#[]))),
  (78, (Obj.mk (Value.type "getset_descriptor") (none) (Data.fields #[Value.str (Str.ofString "__weakref__") 280, Value.ref 76, Value.builtin "ExceptionGroup.__weakref__", Value.none]) (#[]))),
  (86, (Obj.mk (Value.type "code") (none) (Data.fields #[Value.str (Str.ofString "range_rows") 285, Value.str (Str.ofString "range_rows") 286, Value.str (Str.ofString "/claim/cut.py") 287, Value.int 52 0, Value.int 1 0, Value.int 0 0, Value.int 0 0, Value.int 3 0, Value.ref 81, Value.bool true, Value.int 181 0, Value.ref 82, Value.none, Value.ref 83, Value.ref 84, Value.ref 85, Value.int 294 0, Value.int 52 0, Value.str (Str.ofString "/claim/cut.py") 295]) (#[]))),
  (87, fnOf (topSt 7) (Str.ofString "range_rows") (Str.ofString "range_rows") (Value.none) (Value.str (Str.ofString "unicore.ranges") 209) (Value.ref 86)),
  (93, (Obj.mk (Value.type "code") (none) (Data.fields #[Value.str (Str.ofString "fold_of") 299, Value.str (Str.ofString "fold_of") 300, Value.str (Str.ofString "/claim/cut.py") 301, Value.int 59 0, Value.int 3 0, Value.int 0 0, Value.int 0 0, Value.int 3 0, Value.ref 88, Value.bool true, Value.int 181 0, Value.ref 89, Value.none, Value.ref 90, Value.ref 91, Value.ref 92, Value.int 307 0, Value.int 59 0, Value.str (Str.ofString "/claim/cut.py") 308]) (#[]))),
  (94, fnOf (topSt 9) (Str.ofString "fold_of") (Str.ofString "fold_of") (Value.none) (Value.str (Str.ofString "unicore.folding") 297) (Value.ref 93)),
  (100, (Obj.mk (Value.type "code") (none) (Data.fields #[Value.str (Str.ofString "fold_statuses") 310, Value.str (Str.ofString "fold_statuses") 311, Value.str (Str.ofString "/claim/cut.py") 312, Value.int 66 0, Value.int 2 0, Value.int 0 0, Value.int 0 0, Value.int 3 0, Value.ref 95, Value.bool true, Value.int 181 0, Value.ref 96, Value.none, Value.ref 97, Value.ref 98, Value.ref 99, Value.int 316 0, Value.int 66 0, Value.str (Str.ofString "/claim/cut.py") 317]) (#[]))),
  (101, fnOf (topSt 10) (Str.ofString "fold_statuses") (Str.ofString "fold_statuses") (Value.none) (Value.str (Str.ofString "unicore.folding") 297) (Value.ref 100)),
  (107, (Obj.mk (Value.type "code") (none) (Data.fields #[Value.str (Str.ofString "fold_by") 319, Value.str (Str.ofString "fold_by") 320, Value.str (Str.ofString "/claim/cut.py") 321, Value.int 69 0, Value.int 3 0, Value.int 0 0, Value.int 0 0, Value.int 3 0, Value.ref 102, Value.bool true, Value.int 181 0, Value.ref 103, Value.none, Value.ref 104, Value.ref 105, Value.ref 106, Value.int 327 0, Value.int 69 0, Value.str (Str.ofString "/claim/cut.py") 328]) (#[]))),
  (108, fnOf (topSt 11) (Str.ofString "fold_by") (Str.ofString "fold_by") (Value.none) (Value.str (Str.ofString "unicore.folding") 297) (Value.ref 107)),
  (109, (Obj.mk (Value.type "tuple") (none) (Data.seq #[Value.bool false]) (#[]))),
  (115, (Obj.mk (Value.type "code") (none) (Data.fields #[Value.str (Str.ofString "fold_full") 330, Value.str (Str.ofString "fold_full") 331, Value.str (Str.ofString "/claim/cut.py") 332, Value.int 74 0, Value.int 3 0, Value.int 0 0, Value.int 0 0, Value.int 3 0, Value.ref 110, Value.bool true, Value.int 181 0, Value.ref 111, Value.none, Value.ref 112, Value.ref 113, Value.ref 114, Value.int 336 0, Value.int 74 0, Value.str (Str.ofString "/claim/cut.py") 337]) (#[]))),
  (116, fnOf (topSt 12) (Str.ofString "fold_full") (Str.ofString "fold_full") (Value.ref 109) (Value.str (Str.ofString "unicore.folding") 297) (Value.ref 115)),
  (117, (Obj.mk (Value.type "tuple") (none) (Data.seq #[Value.bool false]) (#[]))),
  (123, (Obj.mk (Value.type "code") (none) (Data.fields #[Value.str (Str.ofString "caseless_default") 339, Value.str (Str.ofString "caseless_default") 340, Value.str (Str.ofString "/claim/cut.py") 341, Value.int 76 0, Value.int 3 0, Value.int 0 0, Value.int 0 0, Value.int 3 0, Value.ref 118, Value.bool true, Value.int 181 0, Value.ref 119, Value.none, Value.ref 120, Value.ref 121, Value.ref 122, Value.int 345 0, Value.int 76 0, Value.str (Str.ofString "/claim/cut.py") 346]) (#[]))),
  (124, fnOf (topSt 13) (Str.ofString "caseless_default") (Str.ofString "caseless_default") (Value.ref 117) (Value.str (Str.ofString "unicore.folding") 297) (Value.ref 123)),
  (125, (Obj.mk (Value.type "tuple") (none) (Data.seq #[Value.bool false]) (#[]))),
  (131, (Obj.mk (Value.type "code") (none) (Data.fields #[Value.str (Str.ofString "matches_default") 348, Value.str (Str.ofString "matches_default") 349, Value.str (Str.ofString "/claim/cut.py") 350, Value.int 78 0, Value.int 4 0, Value.int 0 0, Value.int 0 0, Value.int 3 0, Value.ref 126, Value.bool true, Value.int 181 0, Value.ref 127, Value.none, Value.ref 128, Value.ref 129, Value.ref 130, Value.int 355 0, Value.int 78 0, Value.str (Str.ofString "/claim/cut.py") 356]) (#[]))),
  (132, fnOf (topSt 14) (Str.ofString "matches_default") (Str.ofString "matches_default") (Value.ref 125) (Value.str (Str.ofString "unicore.folding") 297) (Value.ref 131)),
  (140, (Obj.mk (Value.type "tuple") (none) (Data.seq #[Value.bool false]) (#[]))),
  (146, (Obj.mk (Value.type "code") (none) (Data.fields #[Value.str (Str.ofString "__init__") 370, Value.str (Str.ofString "FoldIndex.__init__") 371, Value.str (Str.ofString "/claim/cut.py") 372, Value.int 82 0, Value.int 3 0, Value.int 0 0, Value.int 0 0, Value.int 3 0, Value.ref 141, Value.bool true, Value.int 181 0, Value.ref 142, Value.none, Value.ref 143, Value.ref 144, Value.ref 145, Value.int 380 0, Value.int 82 0, Value.str (Str.ofString "/claim/cut.py") 381]) (#[]))),
  (147, fnOf (methSt 15 0) (Str.ofString "__init__") (Str.ofString "FoldIndex.__init__") (Value.ref 140) (Value.str (Str.ofString "unicore.folding") 297) (Value.ref 146)),
  (153, (Obj.mk (Value.type "code") (none) (Data.fields #[Value.str (Str.ofString "put") 383, Value.str (Str.ofString "FoldIndex.put") 384, Value.str (Str.ofString "/claim/cut.py") 385, Value.int 94 0, Value.int 2 0, Value.int 0 0, Value.int 0 0, Value.int 3 0, Value.ref 148, Value.bool true, Value.int 181 0, Value.ref 149, Value.none, Value.ref 150, Value.ref 151, Value.ref 152, Value.int 389 0, Value.int 94 0, Value.str (Str.ofString "/claim/cut.py") 390]) (#[]))),
  (154, fnOf (methSt 15 1) (Str.ofString "put") (Str.ofString "FoldIndex.put") (Value.none) (Value.str (Str.ofString "unicore.folding") 297) (Value.ref 153)),
  (167, (Obj.mk (Value.type "code") (none) (Data.fields #[Value.str (Str.ofString "whole") 400, Value.str (Str.ofString "FoldIndex.whole") 401, Value.str (Str.ofString "/claim/cut.py") 402, Value.int 107 0, Value.int 2 0, Value.int 0 0, Value.int 0 0, Value.int 3 0, Value.ref 162, Value.bool true, Value.int 181 0, Value.ref 163, Value.none, Value.ref 164, Value.ref 165, Value.ref 166, Value.int 406 0, Value.int 107 0, Value.str (Str.ofString "/claim/cut.py") 407]) (#[]))),
  (168, fnOf (methSt 15 3) (Str.ofString "whole") (Str.ofString "FoldIndex.whole") (Value.none) (Value.str (Str.ofString "unicore.folding") 297) (Value.ref 167)),
  (174, (Obj.mk (Value.type "code") (none) (Data.fields #[Value.str (Str.ofString "unfolded") 409, Value.str (Str.ofString "FoldIndex.unfolded") 410, Value.str (Str.ofString "/claim/cut.py") 411, Value.int 113 0, Value.int 2 0, Value.int 0 0, Value.int 0 0, Value.int 3 0, Value.ref 169, Value.bool true, Value.int 181 0, Value.ref 170, Value.none, Value.ref 171, Value.ref 172, Value.ref 173, Value.int 414 0, Value.int 113 0, Value.str (Str.ofString "/claim/cut.py") 415]) (#[]))),
  (175, fnOf (methSt 15 4) (Str.ofString "unfolded") (Str.ofString "FoldIndex.unfolded") (Value.none) (Value.str (Str.ofString "unicore.folding") 297) (Value.ref 174)),
  (181, (Obj.mk (Value.type "code") (none) (Data.fields #[Value.str (Str.ofString "strings") 417, Value.str (Str.ofString "FoldIndex.strings") 418, Value.str (Str.ofString "/claim/cut.py") 419, Value.int 116 0, Value.int 2 0, Value.int 0 0, Value.int 0 0, Value.int 3 0, Value.ref 176, Value.bool true, Value.int 181 0, Value.ref 177, Value.none, Value.ref 178, Value.ref 179, Value.ref 180, Value.int 423 0, Value.int 116 0, Value.str (Str.ofString "/claim/cut.py") 424]) (#[]))),
  (182, fnOf (methSt 15 5) (Str.ofString "strings") (Str.ofString "FoldIndex.strings") (Value.none) (Value.str (Str.ofString "unicore.folding") 297) (Value.ref 181)),
  (188, (Obj.mk (Value.type "code") (none) (Data.fields #[Value.str (Str.ofString "spelled") 426, Value.str (Str.ofString "FoldIndex.spelled") 427, Value.str (Str.ofString "/claim/cut.py") 428, Value.int 120 0, Value.int 2 0, Value.int 0 0, Value.int 0 0, Value.int 3 0, Value.ref 183, Value.bool true, Value.int 181 0, Value.ref 184, Value.none, Value.ref 185, Value.ref 186, Value.ref 187, Value.int 436 0, Value.int 120 0, Value.str (Str.ofString "/claim/cut.py") 437]) (#[]))),
  (189, fnOf (methSt 15 6) (Str.ofString "spelled") (Str.ofString "FoldIndex.spelled") (Value.none) (Value.str (Str.ofString "unicore.folding") 297) (Value.ref 188)),
  (198, (Obj.mk (Value.type "dict") (none) (Data.dict #[DictEntry.mk (PyData.keyHash P (Str.ofString "__module__")) (Value.str (Str.ofString "__module__") 365) (Value.str (Str.ofString "unicore.folding") 297), DictEntry.mk (PyData.keyHash P (Str.ofString "__firstlineno__")) (Value.str (Str.ofString "__firstlineno__") 369) (Value.int 80 368), DictEntry.mk (PyData.keyHash P (Str.ofString "__init__")) (Value.str (Str.ofString "__init__") 382) (Value.ref 147), DictEntry.mk (PyData.keyHash P (Str.ofString "put")) (Value.str (Str.ofString "put") 391) (Value.ref 154), DictEntry.mk (PyData.keyHash P (Str.ofString "alike")) (Value.str (Str.ofString "alike") 399) (Value.ref 161), DictEntry.mk (PyData.keyHash P (Str.ofString "whole")) (Value.str (Str.ofString "whole") 408) (Value.ref 168), DictEntry.mk (PyData.keyHash P (Str.ofString "unfolded")) (Value.str (Str.ofString "unfolded") 416) (Value.ref 175), DictEntry.mk (PyData.keyHash P (Str.ofString "strings")) (Value.str (Str.ofString "strings") 425) (Value.ref 182), DictEntry.mk (PyData.keyHash P (Str.ofString "spelled")) (Value.str (Str.ofString "spelled") 438) (Value.ref 189), DictEntry.mk (PyData.keyHash P (Str.ofString "closed")) (Value.str (Str.ofString "closed") 446) (Value.ref 196), DictEntry.mk (PyData.keyHash P (Str.ofString "__static_attributes__")) (Value.str (Str.ofString "__static_attributes__") 453) (Value.ref 197), DictEntry.mk (PyData.keyHash P (Str.ofString "__dict__")) (Value.str (Str.ofString "__dict__") 455) (Value.ref 200), DictEntry.mk (PyData.keyHash P (Str.ofString "__weakref__")) (Value.str (Str.ofString "__weakref__") 457) (Value.ref 201), DictEntry.mk (PyData.keyHash P (Str.ofString "__doc__")) (Value.str (Str.ofString "__doc__") 458) Value.none] 4) (#[]))),
  (199, (Obj.mk (Value.type "type") (none) (Data.cls (ClassData.mk (Str.ofString "FoldIndex") [Value.type "object"] [Value.ref 199, Value.type "object"] 198 (Str.ofString "FoldIndex") true [] [] false none false)) (#[none, none, some (Value.str (Str.ofString "FoldIndex") 358), some (Value.str (Str.ofString "FoldIndex") 366), some (Value.builtin "object.__new__"), some (Value.bool true)]))),
  (200, (Obj.mk (Value.type "getset_descriptor") (none) (Data.fields #[Value.str (Str.ofString "__dict__") 454, Value.ref 199, Value.builtin "function.__dict__", Value.builtin "function.__dict__#set"]) (#[]))),
  (201, (Obj.mk (Value.type "getset_descriptor") (none) (Data.fields #[Value.str (Str.ofString "__weakref__") 456, Value.ref 199, Value.builtin "ExceptionGroup.__weakref__", Value.none]) (#[]))),
  (209, (Obj.mk (Value.type "code") (none) (Data.fields #[Value.str (Str.ofString "data_defaults") 463, Value.str (Str.ofString "data_defaults") 464, Value.str (Str.ofString "/claim/cut.py") 465, Value.int 133 0, Value.int 0 0, Value.int 0 0, Value.int 0 0, Value.int 3 0, Value.ref 204, Value.bool true, Value.int 181 0, Value.ref 205, Value.none, Value.ref 206, Value.ref 207, Value.ref 208, Value.int 468 0, Value.int 133 0, Value.str (Str.ofString "/claim/cut.py") 469]) (#[]))),
  (210, fnOf (topSt 17) (Str.ofString "data_defaults") (Str.ofString "data_defaults") (Value.none) (Value.str (Str.ofString "unicore.data") 461) (Value.ref 209)),
  (223, (Obj.mk (Value.type "code") (none) (Data.fields #[Value.str (Str.ofString "__init__") 483, Value.str (Str.ofString "Data.__init__") 484, Value.str (Str.ofString "/claim/cut.py") 485, Value.int 147 0, Value.int 1 0, Value.int 0 0, Value.int 0 0, Value.int 3 0, Value.ref 218, Value.bool true, Value.int 181 0, Value.ref 219, Value.none, Value.ref 220, Value.ref 221, Value.ref 222, Value.int 487 0, Value.int 147 0, Value.str (Str.ofString "/claim/cut.py") 488]) (#[]))),
  (224, fnOf (methSt 18 0) (Str.ofString "__init__") (Str.ofString "Data.__init__") (Value.none) (Value.str (Str.ofString "unicore.data") 461) (Value.ref 223)),
  (230, (Obj.mk (Value.type "code") (none) (Data.fields #[Value.str (Str.ofString "put") 490, Value.str (Str.ofString "Data.put") 491, Value.str (Str.ofString "/claim/cut.py") 492, Value.int 153 0, Value.int 5 0, Value.int 0 0, Value.int 0 0, Value.int 3 0, Value.ref 225, Value.bool true, Value.int 181 0, Value.ref 226, Value.none, Value.ref 227, Value.ref 228, Value.ref 229, Value.int 498 0, Value.int 153 0, Value.str (Str.ofString "/claim/cut.py") 499]) (#[]))),
  (231, fnOf (methSt 18 1) (Str.ofString "put") (Str.ofString "Data.put") (Value.none) (Value.str (Str.ofString "unicore.data") 461) (Value.ref 230)),
  (237, (Obj.mk (Value.type "code") (none) (Data.fields #[Value.str (Str.ofString "get") 501, Value.str (Str.ofString "Data.get") 502, Value.str (Str.ofString "/claim/cut.py") 503, Value.int 156 0, Value.int 3 0, Value.int 0 0, Value.int 0 0, Value.int 3 0, Value.ref 232, Value.bool true, Value.int 181 0, Value.ref 233, Value.none, Value.ref 234, Value.ref 235, Value.ref 236, Value.int 507 0, Value.int 156 0, Value.str (Str.ofString "/claim/cut.py") 508]) (#[]))),
  (238, fnOf (methSt 18 2) (Str.ofString "get") (Str.ofString "Data.get") (Value.none) (Value.str (Str.ofString "unicore.data") 461) (Value.ref 237)),
  (244, (Obj.mk (Value.type "code") (none) (Data.fields #[Value.str (Str.ofString "map_of") 510, Value.str (Str.ofString "Data.map_of") 511, Value.str (Str.ofString "/claim/cut.py") 512, Value.int 161 0, Value.int 2 0, Value.int 0 0, Value.int 0 0, Value.int 3 0, Value.ref 239, Value.bool true, Value.int 181 0, Value.ref 240, Value.none, Value.ref 241, Value.ref 242, Value.ref 243, Value.int 515 0, Value.int 161 0, Value.str (Str.ofString "/claim/cut.py") 516]) (#[]))),
  (245, fnOf (methSt 18 3) (Str.ofString "map_of") (Str.ofString "Data.map_of") (Value.none) (Value.str (Str.ofString "unicore.data") 461) (Value.ref 244)),
  (247, (Obj.mk (Value.type "dict") (none) (Data.dict #[DictEntry.mk (PyData.keyHash P (Str.ofString "__module__")) (Value.str (Str.ofString "__module__") 478) (Value.str (Str.ofString "unicore.data") 461), DictEntry.mk (PyData.keyHash P (Str.ofString "__firstlineno__")) (Value.str (Str.ofString "__firstlineno__") 482) (Value.int 145 481), DictEntry.mk (PyData.keyHash P (Str.ofString "__init__")) (Value.str (Str.ofString "__init__") 489) (Value.ref 224), DictEntry.mk (PyData.keyHash P (Str.ofString "put")) (Value.str (Str.ofString "put") 500) (Value.ref 231), DictEntry.mk (PyData.keyHash P (Str.ofString "get")) (Value.str (Str.ofString "get") 509) (Value.ref 238), DictEntry.mk (PyData.keyHash P (Str.ofString "map_of")) (Value.str (Str.ofString "map_of") 517) (Value.ref 245), DictEntry.mk (PyData.keyHash P (Str.ofString "__static_attributes__")) (Value.str (Str.ofString "__static_attributes__") 522) (Value.ref 246), DictEntry.mk (PyData.keyHash P (Str.ofString "__dict__")) (Value.str (Str.ofString "__dict__") 524) (Value.ref 249), DictEntry.mk (PyData.keyHash P (Str.ofString "__weakref__")) (Value.str (Str.ofString "__weakref__") 526) (Value.ref 250), DictEntry.mk (PyData.keyHash P (Str.ofString "__doc__")) (Value.str (Str.ofString "__doc__") 527) Value.none] 4) (#[]))),
  (248, (Obj.mk (Value.type "type") (none) (Data.cls (ClassData.mk (Str.ofString "Data") [Value.type "object"] [Value.ref 248, Value.type "object"] 247 (Str.ofString "Data") true [] [] false none false)) (#[none, none, some (Value.str (Str.ofString "Data") 471), some (Value.str (Str.ofString "Data") 479), some (Value.builtin "object.__new__"), some (Value.bool true)]))),
  (249, (Obj.mk (Value.type "getset_descriptor") (none) (Data.fields #[Value.str (Str.ofString "__dict__") 523, Value.ref 248, Value.builtin "function.__dict__", Value.builtin "function.__dict__#set"]) (#[]))),
  (250, (Obj.mk (Value.type "getset_descriptor") (none) (Data.fields #[Value.str (Str.ofString "__weakref__") 525, Value.ref 248, Value.builtin "ExceptionGroup.__weakref__", Value.none]) (#[]))),
  (253, (Obj.mk (Value.type "tuple") (none) (Data.seq #[Value.int 115 532, Value.int 97 533, Value.int 116 534, Value.int 105 535, Value.int 305 536, Value.int 775 537]) (#[]))),
  (254, (Obj.mk (Value.type "tuple") (none) (Data.seq #[Value.int 46 539, Value.int 65 540, Value.int 73 541, Value.int 83 542, Value.int 84 543, Value.int 97 544, Value.int 105 545, Value.int 115 546, Value.int 116 547, Value.int 223 548, Value.int 304 549, Value.int 305 550, Value.int 383 551, Value.int 775 552, Value.int 7296 553, Value.int 7304 554, Value.int 7838 555, Value.int 42570 556, Value.int 64261 557]) (#[]))),
  (260, (Obj.mk (Value.type "code") (none) (Data.fields #[Value.str (Str.ofString "_law_turn") 559, Value.str (Str.ofString "_law_turn") 560, Value.str (Str.ofString "/claim/cut.py") 561, Value.int 168 0, Value.int 2 0, Value.int 0 0, Value.int 0 0, Value.int 3 0, Value.ref 255, Value.bool true, Value.int 181 0, Value.ref 256, Value.none, Value.ref 257, Value.ref 258, Value.ref 259, Value.int 565 0, Value.int 168 0, Value.str (Str.ofString "/claim/cut.py") 566]) (#[]))),
  (261, fnOf (topSt 22) (Str.ofString "_law_turn") (Str.ofString "_law_turn") (Value.none) (Value.str (Str.ofString "law_rg0328_01") 530) (Value.ref 260)),
  (265, (Obj.mk (Value.type "code") (none) (Data.fields #[Value.str (Str.ofString "_law_told") 568, Value.str (Str.ofString "_law_told") 569, Value.str (Str.ofString "/claim/cut.py") 570, Value.int 176 0, Value.int 1 0, Value.int 0 0, Value.int 0 0, Value.int 3 0, Value.ref 262, Value.bool true, Value.int 181 0, Value.ref 263, Value.none, Value.none, Value.none, Value.ref 264, Value.int 571 0, Value.int 176 0, Value.str (Str.ofString "/claim/cut.py") 572]) (#[]))),
  (266, fnOf (topSt 23) (Str.ofString "_law_told") (Str.ofString "_law_told") (Value.none) (Value.str (Str.ofString "law_rg0328_01") 530) (Value.ref 265)),
  (272, (Obj.mk (Value.type "code") (none) (Data.fields #[Value.str (Str.ofString "_law_fold") 574, Value.str (Str.ofString "_law_fold") 575, Value.str (Str.ofString "/claim/cut.py") 576, Value.int 185 0, Value.int 3 0, Value.int 0 0, Value.int 0 0, Value.int 3 0, Value.ref 267, Value.bool true, Value.int 181 0, Value.ref 268, Value.none, Value.ref 269, Value.ref 270, Value.ref 271, Value.int 582 0, Value.int 185 0, Value.str (Str.ofString "/claim/cut.py") 583]) (#[]))),
  (273, fnOf (topSt 24) (Str.ofString "_law_fold") (Str.ofString "_law_fold") (Value.none) (Value.str (Str.ofString "law_rg0328_01") 530) (Value.ref 272)),
  (277, (Obj.mk (Value.type "code") (none) (Data.fields #[Value.str (Str.ofString "_law_alike") 585, Value.str (Str.ofString "_law_alike") 586, Value.str (Str.ofString "/claim/cut.py") 587, Value.int 191 0, Value.int 3 0, Value.int 0 0, Value.int 0 0, Value.int 3 0, Value.ref 274, Value.bool true, Value.int 181 0, Value.ref 275, Value.none, Value.none, Value.none, Value.ref 276, Value.int 588 0, Value.int 191 0, Value.str (Str.ofString "/claim/cut.py") 589]) (#[]))),
  (278, fnOf (topSt 25) (Str.ofString "_law_alike") (Str.ofString "_law_alike") (Value.none) (Value.str (Str.ofString "law_rg0328_01") 530) (Value.ref 277)),
  (282, (Obj.mk (Value.type "code") (none) (Data.fields #[Value.str (Str.ofString "_law_texts") 591, Value.str (Str.ofString "_law_texts") 592, Value.str (Str.ofString "/claim/cut.py") 593, Value.int 193 0, Value.int 3 0, Value.int 0 0, Value.int 0 0, Value.int 3 0, Value.ref 279, Value.bool true, Value.int 181 0, Value.ref 280, Value.none, Value.none, Value.none, Value.ref 281, Value.int 594 0, Value.int 193 0, Value.str (Str.ofString "/claim/cut.py") 595]) (#[]))),
  (283, fnOf (topSt 26) (Str.ofString "_law_texts") (Str.ofString "_law_texts") (Value.none) (Value.str (Str.ofString "law_rg0328_01") 530) (Value.ref 282)),
  (289, (Obj.mk (Value.type "code") (none) (Data.fields #[Value.str (Str.ofString "_law_exchanged") 597, Value.str (Str.ofString "_law_exchanged") 598, Value.str (Str.ofString "/claim/cut.py") 599, Value.int 198 0, Value.int 4 0, Value.int 0 0, Value.int 0 0, Value.int 3 0, Value.ref 284, Value.bool true, Value.int 181 0, Value.ref 285, Value.none, Value.ref 286, Value.ref 287, Value.ref 288, Value.int 607 0, Value.int 198 0, Value.str (Str.ofString "/claim/cut.py") 608]) (#[]))),
  (290, fnOf (topSt 27) (Str.ofString "_law_exchanged") (Str.ofString "_law_exchanged") (Value.none) (Value.str (Str.ofString "law_rg0328_01") 530) (Value.ref 289)),
  (294, (Obj.mk (Value.type "code") (none) (Data.fields #[Value.str (Str.ofString "_law_is_read") 610, Value.str (Str.ofString "_law_is_read") 611, Value.str (Str.ofString "/claim/cut.py") 612, Value.int 204 0, Value.int 3 0, Value.int 0 0, Value.int 0 0, Value.int 3 0, Value.ref 291, Value.bool true, Value.int 181 0, Value.ref 292, Value.none, Value.none, Value.none, Value.ref 293, Value.int 613 0, Value.int 204 0, Value.str (Str.ofString "/claim/cut.py") 614]) (#[]))),
  (295, fnOf (topSt 28) (Str.ofString "_law_is_read") (Str.ofString "_law_is_read") (Value.none) (Value.str (Str.ofString "law_rg0328_01") 530) (Value.ref 294)),
  (299, (Obj.mk (Value.type "code") (none) (Data.fields #[Value.str (Str.ofString "law") 616, Value.str (Str.ofString "law") 617, Value.str (Str.ofString "/claim/cut.py") 618, Value.int 216 0, Value.int 1 0, Value.int 0 0, Value.int 0 0, Value.int 3 0, Value.ref 296, Value.bool true, Value.int 181 0, Value.ref 297, Value.none, Value.none, Value.none, Value.ref 298, Value.int 619 0, Value.int 216 0, Value.str (Str.ofString "/claim/cut.py") 620]) (#[]))),
  (300, fnOf (topSt 29) (Str.ofString "law") (Str.ofString "law") (Value.none) (Value.str (Str.ofString "law_rg0328_01") 530) (Value.ref 299))]
noncomputable def hd.addrs : List Addr := [3, 27, 28, 32, 33, 46, 47, 53, 54, 60, 61, 65, 66, 75, 76, 77, 78, 86, 87, 93, 94, 100, 101, 107, 108, 109, 115, 116, 117, 123, 124, 125, 131, 132, 140, 146, 147, 153, 154, 167, 168, 174, 175, 181, 182, 188, 189, 198, 199, 200, 201, 209, 210, 223, 224, 230, 231, 237, 238, 244, 245, 247, 248, 249, 250, 253, 254, 260, 261, 265, 266, 272, 273, 277, 278, 282, 283, 289, 290, 294, 295, 299, 300]
theorem hd.keys : ∀ P, hd.addrs = (hd.heap_39 P).map (·.1) := fun zz1 => rfl
noncomputable def view : Program := { pw with main := { pw.main with body := pw.main.body.drop 29 } }
noncomputable def looseL : List Str := ["_wall", "MAX_CODE", "place_by_half", "range_are_like", "RangeMap", "range_rows", "fold_of", "fold_statuses", "fold_by", "fold_full", "caseless_default", "matches_default", "FoldIndex", "data_defaults", "Data", "_law_letters", "_law_known", "_law_turn", "_law_told", "_law_fold", "_law_alike", "_law_texts", "_law_exchanged", "_law_is_read"]
noncomputable def hook : Hook := kHook hd.heap_39 hd.addrs hd.keys

theorem opening_eq : opening pw = plainProg pw.main.scope.names := by kernel_rfl
theorem fence_eq : ∀ s, fenceModules? pw s = some s := fun s => by kernel_rfl
/-- the text's opening is the library's own -/
theorem left_of {q : Program} {loose : List Str} {Xt : Shared → Bool} {α : Type} {Yf : Shared → α} {Ya : World → α} {N : Nat} (hN : Nat.ble 600 N = true)
    (h : ∀ w os, (topFrom treeTable pw w N ⟨boot_heap w.params, Array.mk [], boot_drawn, boot_toks, os⟩).map (fun s => (openSeen q loose (importedModules pw.main.body) Xt true s, Yf s)) = some (openGood q loose, Ya w)) : LeftO pw q loose Xt Yf Ya N := fun w => by
  obtain ⟨⟨h', gs, d, k, os⟩, e, e'⟩ := Option.map_eq_some_iff.mp (boot_open opening_eq hN fence_eq w)
  obtain ⟨rfl, rfl, rfl, rfl⟩ : h' = boot_heap w.params ∧ gs = Array.mk [] ∧ d = boot_drawn ∧ k = boot_toks := by simpa using e'
  unfold openEnds
  rw [e]
  exact h w os
/-- the run of the text, by the library's quick twins of its own parts -/
theorem left : LeftO PySem.Challenge.rw_rg0328_01.row.prog view looseL (fun s => xlAt view [] s && recOk (RowW.records PySem.Challenge.rw_rg0328_01.row.toRowW) s) hook.obs hook.val 3762 := left_of (by kernel_rfl) fun w os => by
  unfold topFrom
  rw [PySem.W.Fast.te14082659384304107361, PySem.W.Fast.te14364793385576792824, PySem.W.Fast.te4187177175401517315]
  kernel_rfl
theorem said : PySem.Challenge.rw_rg0328_01.wellSaid = true := by
  rw [PySem.W.Fast.te9446332074065402090]
  kernel_rfl
/-- the head: what a walk of the call gives -/
theorem hd {d : DefRec} {kwd : List (Str × Expr)} (hdef : defOf view PySem.Challenge.rw_rg0328_01.row.name = some (d, kwd)) (hp : PySem.Challenge.rw_rg0328_01.row.prog.theDef PySem.Challenge.rw_rg0328_01.row.name = some (d.params, d.body, d.scope))
    (hk : kwWritten? d.params.kwonlyargs d.params.kw_defaults = some kwd) (call : WalkO view looseL (XL view []) hook.says PySem.Challenge.rw_rg0328_01.row.toRowW d kwd fun f vs => PySem.call f vs) : PySem.Challenge.rw_rg0328_01.Holds :=
  holds_law said fun said' => holds_open (q := view) (loose := looseL) (Xt := fun s => xlAt view [] s && recOk (RowW.records PySem.Challenge.rw_rg0328_01.row.toRowW) s) (XP := XL view []) (Yf := hook.obs) (Ya := hook.val) (YP := hook.says) (N := 3762) left hook.of hook.keeps
    (fun s e => xl_of s (Bool.and_eq_true_iff.mp e).1) XL.keeps hdef hp hk (fun s e => recFacts_of (Bool.and_eq_true_iff.mp e).2) rfl said' (by decide +kernel) ⟨rfl, rfl, rfl, rfl, rfl, by decide +kernel⟩ (by w_witness2) call
end Mine
end

noncomputable section
open PySem PySem.W PyProof.Rows PySem.Calls
set_option Elab.async false
set_option maxRecDepth 100000
namespace Mine

/-! the heap never shrinks -/
theorem runsSize {M : Model} {Γ : Ctx} {p : Pos} {t : Sem Fin} {fs : List Frame} {s s' : Shared} {e : End} (h : Runs M Γ p t fs s e s') : s.heap.objs.size ≤ s'.heap.objs.size := by
  induction h <;> (try simp only [Shared.setGen, Heap.size_push, Heap.size_after_update] at *) <;> (first | lia | omega)
theorem retSize {M : Model} {Γ : Ctx} {p : Pos} {s s' : Shared} {r : Result} (h : Returns M Γ p s r s') : s.heap.objs.size ≤ s'.heap.objs.size := runsSize h
theorem wakeSize {M : Model} {Γ : Ctx} {p : Pos} {g : Nat} {r : Resume} {s s' : Shared} {res : GenResult} (h : Wakes M Γ p g r s res s') : s.heap.objs.size ≤ s'.heap.objs.size := by
  unfold Wakes at h
  split at h
  · exact h.elim
  · split at h
    · obtain ⟨e₁, s₁, hr, _, _, rfl⟩ := h; exact (runsSize hr : (s.setGen g .running).heap.objs.size ≤ s₁.heap.objs.size)
    · rw [h.2]; exact Nat.le_refl _
    · rw [h.2]; exact Nat.le_refl _
  · obtain ⟨e₁, s₁, hr, _, _, rfl⟩ := h; exact (runsSize hr : (s.setGen g .running).heap.objs.size ≤ s₁.heap.objs.size)
  · rw [h.2]; exact Nat.le_refl _
  · rw [h.2]; exact Nat.le_refl _

theorem wpSize {α : Type} (M : Model) (Γ : Ctx) (n : Nat) (t : Sem α) : ∀ (Q : α → Pos → Shared → Prop) (E : Value → Pos → Shared → Prop) (p : Pos) (s : Shared), n ≤ s.heap.objs.size → Sem.wp M Γ t Q E p s →
    Sem.wp M Γ t (fun a p' s' => n ≤ s'.heap.objs.size ∧ Q a p' s') (fun e p' s' => n ≤ s'.heap.objs.size ∧ E e p' s') p s := by
  induction t with
  | pure a => intro Q E p s hn h; exact ⟨hn, h⟩
  | raise e => intro Q E p s hn h; exact ⟨hn, h⟩
  | unsupported _ => intro Q E p s _ h; exact h
  | finish _ => intro Q E p s _ h; exact h
  | rule _ k ih => intro Q E p s hn h; exact ih () Q E p s hn h
  | «at» p' k ih => intro Q E p s hn h; exact ih () Q E p' s hn h
  | load a _ k ih => intro Q E p s hn h; obtain ⟨o, ho, h⟩ := h; exact ⟨o, ho, ih o Q E p s hn h⟩
  | update a _ f k ih => intro Q E p s hn h; exact ⟨h.1, ih () Q E p _ (by rw [Heap.size_after_update]; exact hn) h.2⟩
  | loadIfAlive a k ih => intro Q E p s hn h; exact ih _ Q E p s hn h
  | point _ k ih => intro Q E p s hn h; exact ih () Q E p s hn h
  | register _ _ => intro Q E p s _ h; exact h
  | alloc o k ih => intro Q E p s hn h; exact ih _ Q E p _ (by rw [Heap.size_push]; (first | lia | omega)) h
  | fresh k ih => intro Q E p s hn h; exact ih _ Q E p _ hn h
  | ask k ih => intro Q E p s hn h; exact ih _ Q E p s hn h
  | choose src m k ih => intro Q E p s hn h; exact ⟨h.1, ih _ Q E p _ hn h.2⟩
  | os q _ k ih => intro Q E p s hn h; exact ih _ Q E p _ hn h
  | call c hd _ _ k ih => intro Q E p s hn h; obtain ⟨r, s', hr, h⟩ := h; exact ⟨r, s', hr, ih r Q E p s' (Nat.le_trans hn (retSize hr)) h⟩
  | handled own k ih => intro Q E p s hn h; exact ih _ Q E p s hn h
  | genState g k ih => intro Q E p s hn h; obtain ⟨st, hs, h⟩ := h; exact ⟨st, hs, ih _ Q E p s hn h⟩
  | newGen c k ih => intro Q E p s hn h; exact ih _ Q E p _ hn h
  | resume g r _ k ih => intro Q E p s hn h; obtain ⟨res, s', hw, h⟩ := h; exact ⟨res, s', hw, ih res Q E p s' (Nat.le_trans hn (wakeSize hw)) h⟩
  | yield _ _ _ _ => intro Q E p s _ h; exact h
  | stack k ih => intro Q E p s hn h; exact ih _ Q E p s hn h
  | fork _ _ => intro Q E p s _ h; exact h
  | thread k ih => intro Q E p s hn h; exact ih _ Q E p s hn h
  | await _ _ _ _ _ => intro Q E p s _ h; exact h

/-- the size may be asked at the end -/
theorem withSize {α : Type} {M : Model} {A : Around} {s : Shared} {t : Sem α} {Q : α → Shared → Prop} {E : Value → Shared → Prop}
    (h : wpAny M A t (fun a s' => s.heap.objs.size ≤ s'.heap.objs.size → Q a s') E s) : wpAny M A t Q E s := by
  have h2 : wpAny M A t (fun a s' => s.heap.objs.size ≤ s'.heap.objs.size ∧ (s.heap.objs.size ≤ s'.heap.objs.size → Q a s')) (fun e s' => s.heap.objs.size ≤ s'.heap.objs.size ∧ E e s') s :=
    fun Γ p hΓ => wpSize M Γ s.heap.objs.size t _ _ p s (Nat.le_refl _) (h Γ p hΓ)
  exact wpAny_mono h2 (fun zz1 zz2 x => x.2 x.1) (fun zz1 zz2 x => x.2)
theorem codeWithSize {M : Model} {A : Around} {s : Shared} {c : Code} {R : Result → Shared → Prop}
    (h : codeAny M A c (fun r s' => s.heap.objs.size ≤ s'.heap.objs.size → R r s') s) : codeAny M A c R s :=
  fun Γ p hc hΓ => by obtain ⟨r, s', hr, hR⟩ := h Γ p hc hΓ; exact ⟨r, s', hr, hR (retSize hr)⟩
end Mine
end

noncomputable section
open PySem PySem.W PyProof.Rows PySem.Calls
set_option Elab.async false
set_option maxRecDepth 100000
namespace Mine

/-- abstract values -/
inductive AV where
  | none | bool (b : Bool) | int (i : Int) | str (s : Str)
  | tup (vs : List AV) | lst (vs : List AV) | ref (l : Nat) | inst (c : Addr) (l : Nat) | rng (a b : Int) | typ (T : String)

inductive AO where
  | list (vs : List AV) | dI (kvs : List (Int × AV)) | dS (kvs : List (Str × AV)) | dT (kvs : List (List Int × AV))

structure St where
  n : Nat
  obj : Nat → Option AO

noncomputable def Imm (o : Obj) : Prop := (o.cls = .type "tuple" ∧ ∃ items k, o.data = .seq items k) ∨ (∃ c dx, o = instObj c dx) ∨ (o.cls = .type "range" ∧ ∃ vs, o.data = .fields vs)

structure Ctx where
  prog : Program
  w : World
  h0 : Heap
  K : Frag
  p : Program
  loose : List Str
  mg : Str → Option Value
  mb : Str → Option Value
  KX : K.In h0
  T : TopRead p loose mg mb h0

mutual
inductive VRep (h0 : Heap) (n : Nat) (μ : Nat → Addr) (h : Heap) : AV → Value → Prop
  | none : VRep h0 n μ h .none .none
  | bool (b) : VRep h0 n μ h (.bool b) (.bool b)
  | int (i t) : VRep h0 n μ h (.int i) (.int i t)
  | str (s t) : VRep h0 n μ h (.str s) (.str s t)
  | typ (T) : VRep h0 n μ h (.typ T) (.type T)
  | ref (l) : l < n → VRep h0 n μ h (.ref l) (.ref (μ l))
  | inst (c l a) : l < n → h.get? a = some (instObj c (μ l)) → VRep h0 n μ h (.inst c l) (.ref a)
  | tup (vs a items k) : h.get? a = some { cls := .type "tuple", data := .seq items k } → VReps h0 n μ h vs items.toList → VRep h0 n μ h (.tup vs) (.ref a)
  | rng (a b r t u v) : IsRange h r a b 1 t u v → VRep h0 n μ h (.rng a b) (.ref r)
  | lst (vs a items) : h0.IsList a items → VReps h0 n μ h vs items.toList → VRep h0 n μ h (.lst vs) (.ref a)
inductive VReps (h0 : Heap) (n : Nat) (μ : Nat → Addr) (h : Heap) : List AV → List Value → Prop
  | nil : VReps h0 n μ h [] []
  | cons (v : AV) (vs : List AV) (x : Value) (xs : List Value) : VRep h0 n μ h v x → VReps h0 n μ h vs xs → VReps h0 n μ h (v :: vs) (x :: xs)
end

/-- one step of the world: what stays -/
structure Nxt (n : Nat) (μ : Nat → Addr) (h : Heap) (n' : Nat) (μ' : Nat → Addr) (h' : Heap) (own : Addr → Prop) : Prop where
  nle : n ≤ n'
  mu : ∀ l, l < n → μ' l = μ l
  fresh : ∀ l, n ≤ l → l < n' → h.objs.size ≤ μ' l
  size : h.objs.size ≤ h'.objs.size
  imm : ∀ a o, h.get? a = some o → Imm o → h'.get? a = some o
  keep : ∀ a o, h.get? a = some o → (∀ l, l < n → a ≠ μ l) → ¬ own a → h'.get? a = some o

theorem Nxt.refl (n μ h own) : Nxt n μ h n μ h own := ⟨Nat.le_refl _, fun zz1 zz2 => rfl, fun l h1 h2 => absurd h2 (Nat.not_lt.mpr h1), Nat.le_refl _, fun zz1 zz2 e zz3 => e, fun zz1 zz2 e zz3 zz4 => e⟩

theorem Nxt.trans {n μ h n' μ' h' n'' μ'' h''} {own : Addr → Prop} (x : Nxt n μ h n' μ' h' own) (y : Nxt n' μ' h' n'' μ'' h'' own) : Nxt n μ h n'' μ'' h'' own where
  nle := Nat.le_trans x.nle y.nle
  mu := fun l hl => (y.mu l (Nat.lt_of_lt_of_le hl x.nle)).trans (x.mu l hl)
  fresh := fun l h1 h2 => by
    by_cases hl : l < n'
    · rw [y.mu l hl]; exact x.fresh l h1 hl
    · exact Nat.le_trans x.size (y.fresh l (Nat.not_lt.mp hl) h2)
  size := Nat.le_trans x.size y.size
  imm := fun a o e i => y.imm a o (x.imm a o e i) i
  keep := fun a o e h1 h2 => y.keep a o (x.keep a o e h1 h2) (fun l hl => by
    by_cases hl' : l < n
    · rw [x.mu l hl']; exact h1 l hl'
    · exact Nat.ne_of_lt (Nat.lt_of_lt_of_le (Heap.lt_size e) (x.fresh l (Nat.not_lt.mp hl') hl))) h2

theorem Nxt.own {n μ h n' μ' h'} {own own' : Addr → Prop} (x : Nxt n μ h n' μ' h' own) (hs : ∀ a, own a → own' a) : Nxt n μ h n' μ' h' own' :=
  ⟨x.nle, x.mu, x.fresh, x.size, x.imm, fun a o e h1 h2 => x.keep a o e h1 fun z => h2 (hs a z)⟩

noncomputable def NoOwn : Addr → Prop := fun zz1 => False

mutual
theorem VRep.nxt {h0 n μ h n' μ' h'} {own : Addr → Prop} (x : Nxt n μ h n' μ' h' own) : ∀ {v : AV} {u : Value}, VRep h0 n μ h v u → VRep h0 n' μ' h' v u
  | _, _, .none => .none
  | _, _, .bool b => .bool b
  | _, _, .int i t => .int i t
  | _, _, .str s t => .str s t
  | _, _, .typ T => .typ T
  | _, _, .ref l hl => by rw [← x.mu l hl]; exact .ref l (Nat.lt_of_lt_of_le hl x.nle)
  | _, _, .inst c l a hl e => .inst c l a (Nat.lt_of_lt_of_le hl x.nle) (by rw [x.mu l hl]; exact x.imm _ _ e (.inr (.inl ⟨_, _, rfl⟩)))
  | _, _, .tup vs a items k e r => .tup vs a items k (x.imm _ _ e (.inl ⟨rfl, _, _, rfl⟩)) (VReps.nxt x r)
  | _, _, .rng a b r t u v e => .rng a b r t u v (x.imm _ _ e (.inr (.inr ⟨rfl, _, rfl⟩)))
  | _, _, .lst vs a items e r => .lst vs a items e (VReps.nxt x r)
theorem VReps.nxt {h0 n μ h n' μ' h'} {own : Addr → Prop} (x : Nxt n μ h n' μ' h' own) : ∀ {v : List AV} {u : List Value}, VReps h0 n μ h v u → VReps h0 n' μ' h' v u
  | _, _, .nil => .nil
  | _, _, .cons v vs y ys r rs => .cons v vs y ys (VRep.nxt x r) (VReps.nxt x rs)
end

theorem VReps.length {h0 n μ h} {vs : List AV} {us : List Value} (r : VReps h0 n μ h vs us) : us.length = vs.length := by
  induction us generalizing vs with
  | nil => cases r; rfl
  | cons u us ih => cases r with | cons v vs _ _ h1 h2 => simp [ih h2]

theorem VReps.append {h0 n μ h} {vs vs' : List AV} {us us' : List Value} (r : VReps h0 n μ h vs us) (r' : VReps h0 n μ h vs' us') : VReps h0 n μ h (vs ++ vs') (us ++ us') := by
  induction us generalizing vs with
  | nil => cases r; exact r'
  | cons u us ih => cases r with | cons v vs _ _ h1 h2 => exact .cons _ _ _ _ h1 (ih h2)

theorem VReps.get {h0 n μ h} {vs : List AV} {us : List Value} (r : VReps h0 n μ h vs us) {i : Nat} {v : AV} (e : vs[i]? = some v) : ∃ u, us[i]? = some u ∧ VRep h0 n μ h v u := by
  induction us generalizing vs i with
  | nil => cases r; simp at e
  | cons u us ih => cases r with
    | cons v' vs _ _ h1 h2 =>
      cases i with
      | zero => simp at e; subst e; exact ⟨u, rfl, h1⟩
      | succ i => simp at e; obtain ⟨u', a, b⟩ := ih h2 e; exact ⟨u', by simpa using a, b⟩

theorem VReps.drop {h0 n μ h} (k : Nat) {vs : List AV} {us : List Value} (r : VReps h0 n μ h vs us) : VReps h0 n μ h (vs.drop k) (us.drop k) := by
  induction k generalizing vs us with
  | zero => simpa using r
  | succ k ih => cases r with
    | nil => exact .nil
    | cons v vs u us h1 h2 => simpa using ih h2
theorem VReps.take {h0 n μ h} (k : Nat) {vs : List AV} {us : List Value} (r : VReps h0 n μ h vs us) : VReps h0 n μ h (vs.take k) (us.take k) := by
  induction k generalizing vs us with
  | zero => simpa using VReps.nil
  | succ k ih => cases r with
    | nil => exact .nil
    | cons v vs u us h1 h2 => simpa using VReps.cons _ _ _ _ h1 (ih h2)

/-- pairs of a dict -/
inductive PReps {κ : Type} (h0 : Heap) (n : Nat) (μ : Nat → Addr) (h : Heap) : List (κ × AV) → List (κ × Value) → Prop
  | nil : PReps h0 n μ h [] []
  | cons (k : κ) (v : AV) (r : List (κ × AV)) (u : Value) (r' : List (κ × Value)) : VRep h0 n μ h v u → PReps h0 n μ h r r' → PReps h0 n μ h ((k, v) :: r) ((k, u) :: r')

theorem PReps.nxt {κ : Type} {h0 n μ h n' μ' h'} {own : Addr → Prop} (x : Nxt n μ h n' μ' h' own) {a : List (κ × AV)} {b : List (κ × Value)} (r : PReps h0 n μ h a b) : PReps h0 n' μ' h' a b := by
  induction r with
  | nil => exact .nil
  | cons k v r u r' h1 _ ih => exact .cons k v r u r' (h1.nxt x) ih

noncomputable abbrev tupKnd (prog : Program) (w : World) : HeapKind prog w (List Int) := tupleKind (intKind prog w)

noncomputable def ORep (prog : Program) (w : World) (h0 : Heap) (n : Nat) (μ : Nat → Addr) (h : Heap) (a : Addr) : AO → Prop
  | .list vs => ∃ items k, h.get? a = some { cls := .type "list", data := .seq items k } ∧ VReps h0 n μ h vs items.toList
  | .dI kvs => ∃ kus, h.DictOf (intKind prog w) a kus ∧ PReps h0 n μ h kvs kus
  | .dS kvs => ∃ kus, h.DictOf (strKind prog w) a kus ∧ PReps h0 n μ h kvs kus
  | .dT kvs => ∃ xs : List (List Int × Addr × Value), h.DictOfH (tupKnd prog w) a xs ∧ PReps h0 n μ h kvs (xs.map fun x => (x.1, x.2.2))


theorem tupKey_imm {prog : Program} {w : World} {h h' : Heap} {ks : List Int} {a : Addr} (hi : ∀ a o, h.get? a = some o → Imm o → h'.get? a = some o)
    (x : IsTupleKey (intKind prog w) h ks a) : IsTupleKey (intKind prog w) h' ks a := by
  obtain ⟨o, items, k, ho, hc, hd, hi'⟩ := x
  exact ⟨o, items, k, hi a o ho (.inl ⟨hc, items, k, hd⟩), hc, hd, hi'⟩

theorem ORep.nxt {prog w h0 n μ h n' μ' h'} {own : Addr → Prop} (x : Nxt n μ h n' μ' h' own) {a : Addr} (he : ∀ o, h.get? a = some o → h'.get? a = some o) :
    ∀ {o : AO}, ORep prog w h0 n μ h a o → ORep prog w h0 n' μ' h' a o
  | .list _, ⟨items, k, e, r⟩ => ⟨items, k, he _ e, r.nxt x⟩
  | .dI _, ⟨kus, ⟨o, es, ep, e, q⟩, r⟩ => ⟨kus, ⟨o, es, ep, he _ e, q⟩, r.nxt x⟩
  | .dS _, ⟨kus, ⟨o, es, ep, e, q⟩, r⟩ => ⟨kus, ⟨o, es, ep, he _ e, q⟩, r.nxt x⟩
  | .dT _, ⟨xs, ⟨o, es, ep, e, q1, q2, q3, q4, q5⟩, r⟩ => ⟨xs, ⟨o, es, ep, he _ e, q1, q2, q3, fun y hy => tupKey_imm x.imm (q4 y hy), q5⟩, r.nxt x⟩

theorem notImm_seq {ob : Obj} {items : Array Value} {k : Nat} (hc : ob.cls ≠ .type "tuple") (hd : ob.data = .seq items k) : ¬ Imm ob := fun q => by
  rcases q with ⟨q, _⟩ | ⟨c, dx, q⟩ | ⟨_, _, q⟩
  · exact hc q
  · rw [q] at hd; cases hd
  · rw [hd] at q; cases q
theorem notImm_dict {ob : Obj} {es : Array DictEntry} {k : Nat} (hd : ob.data = .dict es k) : ¬ Imm ob := fun q => by
  rcases q with ⟨_, _, _, q⟩ | ⟨c, dx, q⟩ | ⟨_, _, q⟩
  · rw [hd] at q; cases q
  · rw [q] at hd; cases hd
  · rw [hd] at q; cases q
theorem ORep.at {prog w h0 n μ h a} {o : AO} (x : ORep prog w h0 n μ h a o) : ∃ ob, h.get? a = some ob ∧ ¬ Imm ob := by
  cases o with
  | list vs => obtain ⟨items, k, e, r⟩ := x; exact ⟨_, e, notImm_seq (show Value.type "list" ≠ Value.type "tuple" by decide) rfl⟩
  | dI kvs => obtain ⟨kus, ⟨o, es, ep, e, _, q, _⟩, r⟩ := x; exact ⟨_, e, notImm_dict q⟩
  | dS kvs => obtain ⟨kus, ⟨o, es, ep, e, _, q, _⟩, r⟩ := x; exact ⟨_, e, notImm_dict q⟩
  | dT kvs => obtain ⟨xs, ⟨o, es, ep, e, _, q, _⟩, r⟩ := x; exact ⟨_, e, notImm_dict q⟩

/-- the store lies in the heap -/
structure Rel (C : Ctx) (μ : Nat → Addr) (σ : St) (h : Heap) : Prop where
  base : ∀ a o, C.h0.get? a = some o → h.get? a = some o
  size : C.h0.objs.size ≤ h.objs.size
  inj : ∀ l l', l < σ.n → l' < σ.n → μ l = μ l' → l = l'
  above : ∀ l, l < σ.n → C.h0.objs.size ≤ μ l
  lt : ∀ l o, σ.obj l = some o → l < σ.n
  obj : ∀ l, l < σ.n → ∃ o, σ.obj l = some o ∧ ORep C.prog C.w C.h0 σ.n μ h (μ l) o

noncomputable def St.set (σ : St) (l : Nat) (o : AO) : St := ⟨σ.n, fun k => if k = l then some o else σ.obj k⟩
noncomputable def St.push (σ : St) (o : AO) : St := ⟨σ.n + 1, fun k => if k = σ.n then some o else σ.obj k⟩
@[simp] theorem St.set_n (σ : St) (l o) : (σ.set l o).n = σ.n := rfl
@[simp] theorem St.push_n (σ : St) (o) : (σ.push o).n = σ.n + 1 := rfl

noncomputable def upd {α : Type} (f : Nat → α) (i : Nat) (v : α) : Nat → α := fun j => if j = i then v else f j

section
variable {C : Ctx} {μ : Nat → Addr} {σ : St} {h h' : Heap}

theorem Rel.rep (R : Rel C μ σ h) {l : Nat} {o : AO} (e : σ.obj l = some o) : ORep C.prog C.w C.h0 σ.n μ h (μ l) o := by
  obtain ⟨o', e', r⟩ := R.obj l (R.lt l o e)
  rw [e] at e'; cases e'; exact r

theorem Rel.mulive (R : Rel C μ σ h) {l : Nat} (hl : l < σ.n) : μ l < h.objs.size := by
  obtain ⟨o, _, r⟩ := R.obj l hl
  obtain ⟨ob, e, _⟩ := r.at
  exact Heap.lt_size e

/-- the heap only grew: nothing of the store changed -/
theorem Nxt.grow (own : Addr → Prop) (hs : h.objs.size ≤ h'.objs.size) (hk : ∀ a o, h.get? a = some o → h'.get? a = some o) (n : Nat) (μ : Nat → Addr) : Nxt n μ h n μ h' own :=
  ⟨Nat.le_refl _, fun zz1 zz2 => rfl, fun l h1 h2 => absurd h2 (Nat.not_lt.mpr h1), hs, fun a o e zz1 => hk a o e, fun a o e zz1 zz2 => hk a o e⟩

theorem Rel.grow (R : Rel C μ σ h) (hs : h.objs.size ≤ h'.objs.size) (hk : ∀ a o, h.get? a = some o → h'.get? a = some o) : Rel C μ σ h' where
  base := fun a o e => hk a o (R.base a o e)
  size := Nat.le_trans R.size hs
  inj := R.inj
  above := R.above
  lt := R.lt
  obj := fun l hl => by
    obtain ⟨o, e, r⟩ := R.obj l hl
    exact ⟨o, e, r.nxt (Nxt.grow NoOwn hs hk σ.n μ) (fun o e => hk _ o e)⟩

/-- a change outside the store: at an address of one's own -/
theorem Nxt.other (own : Addr → Prop) {a : Addr} (hs : Heap.SameBut a h h') (ho : own a) {ob : Obj} (he : h.get? a = some ob) (hi : ¬ Imm ob) (n : Nat) (μ : Nat → Addr) : Nxt n μ h n μ h' own :=
  ⟨Nat.le_refl _, fun zz1 zz2 => rfl, fun l h1 h2 => absurd h2 (Nat.not_lt.mpr h1), Nat.le_of_eq hs.1.symm,
    fun b o e i => (hs.2 b fun q => by subst q; rw [he] at e; cases e; exact hi i).trans e, fun b o e zz1 h2 => (hs.2 b fun q => h2 (q ▸ ho)).trans e⟩

theorem Rel.other (R : Rel C μ σ h) {a : Addr} (hs : Heap.SameBut a h h') (hm : ∀ l, l < σ.n → μ l ≠ a) (hb : C.h0.objs.size ≤ a) {ob : Obj} (he : h.get? a = some ob) (hi : ¬ Imm ob) : Rel C μ σ h' where
  base := fun b o e => (hs.2 b (Nat.ne_of_lt (Nat.lt_of_lt_of_le (Heap.lt_size e) hb))).trans (R.base b o e)
  size := by rw [hs.1]; exact R.size
  inj := R.inj
  above := R.above
  lt := R.lt
  obj := fun l hl => by
    obtain ⟨o, e, r⟩ := R.obj l hl
    exact ⟨o, e, r.nxt (Nxt.other (fun b => b = a) hs rfl he hi σ.n μ) (fun o e => (hs.2 _ (hm l hl)).trans e)⟩

/-- a change of one object of the store -/
theorem Nxt.set (own : Addr → Prop) (R : Rel C μ σ h) {l : Nat} (hl : l < σ.n) (hs : Heap.SameBut (μ l) h h') : Nxt σ.n μ h σ.n μ h' own := by
  obtain ⟨o, e, r⟩ := R.obj l hl
  obtain ⟨ob, e', hi⟩ := r.at
  exact ⟨Nat.le_refl _, fun zz1 zz2 => rfl, fun l h1 h2 => absurd h2 (Nat.not_lt.mpr h1), Nat.le_of_eq hs.1.symm,
    fun b o e i => (hs.2 b fun q => by subst q; rw [e'] at e; cases e; exact hi i).trans e, fun b o e h1 zz1 => (hs.2 b (h1 l hl)).trans e⟩

theorem Rel.set (R : Rel C μ σ h) {l : Nat} {o : AO} (hl : l < σ.n) (hs : Heap.SameBut (μ l) h h') (r : ORep C.prog C.w C.h0 σ.n μ h' (μ l) o) : Rel C μ (σ.set l o) h' where
  base := fun b o e => (hs.2 b (Nat.ne_of_lt (Nat.lt_of_lt_of_le (Heap.lt_size e) (R.above l hl)))).trans (R.base b o e)
  size := by rw [hs.1]; exact R.size
  inj := R.inj
  above := R.above
  lt := fun k o e => by
    simp only [St.set] at e
    split at e
    · subst_vars; exact hl
    · exact R.lt k o e
  obj := fun k hk => by
    by_cases q : k = l
    · subst q; exact ⟨o, by simp [St.set], r⟩
    · obtain ⟨o', e, r'⟩ := R.obj k hk
      exact ⟨o', by simp [St.set, q, e], r'.nxt (Nxt.set NoOwn R hl hs) (fun o e => (hs.2 _ fun z => q (R.inj _ _ hk hl z)).trans e)⟩

/-- a new object of the store, at an address that was free -/
theorem Nxt.push (own : Addr → Prop) {a : Addr} (hs : h.objs.size ≤ h'.objs.size) (hk : ∀ a o, h.get? a = some o → h'.get? a = some o) (ha : h.objs.size ≤ a) (n : Nat) (μ : Nat → Addr) : Nxt n μ h (n + 1) (upd μ n a) h' own :=
  ⟨Nat.le_succ _, fun l hl => by simp [upd, Nat.ne_of_lt hl], fun l h1 h2 => (by
    obtain rfl : l = n := Nat.le_antisymm (Nat.le_of_lt_succ h2) h1
    simpa [upd] using ha), hs, fun a o e zz1 => hk a o e, fun a o e zz1 zz2 => hk a o e⟩

theorem Rel.push (R : Rel C μ σ h) {a : Addr} {o : AO} (hs : h.objs.size ≤ h'.objs.size) (hk : ∀ a o, h.get? a = some o → h'.get? a = some o) (ha : h.objs.size ≤ a)
    (r : ORep C.prog C.w C.h0 (σ.n + 1) (upd μ σ.n a) h' a o) : Rel C (upd μ σ.n a) (σ.push o) h' where
  base := fun b o e => hk b o (R.base b o e)
  size := Nat.le_trans R.size hs
  inj := fun l l' h1 h2 e => by
    simp only [St.push_n] at h1 h2
    simp only [upd] at e
    split at e <;> split at e
    · (first | lia | omega)
    · exact absurd (R.mulive (l := l') (by (first | lia | omega))) (by rw [← e]; exact Nat.not_lt.mpr ha)
    · exact absurd (R.mulive (l := l) (by (first | lia | omega))) (by rw [e]; exact Nat.not_lt.mpr ha)
    · exact R.inj l l' (by (first | lia | omega)) (by (first | lia | omega)) e
  above := fun l h1 => by
    simp only [St.push_n] at h1
    simp only [upd]
    split
    · exact Nat.le_trans R.size ha
    · exact R.above l (by (first | lia | omega))
  lt := fun k o' e => by
    simp only [St.push] at e ⊢
    split at e
    · (first | lia | omega)
    · have := R.lt k o' e; (first | lia | omega)
  obj := fun k hk' => by
    simp only [St.push_n] at hk' ⊢
    by_cases q : k = σ.n
    · subst q; exact ⟨o, by simp [St.push], by simpa [upd] using r⟩
    · obtain ⟨o', e, r'⟩ := R.obj k (by (first | lia | omega))
      refine ⟨o', by simp [St.push, q, e], ?_⟩
      rw [show upd μ σ.n a k = μ k by simp [upd, q]]
      exact r'.nxt (Nxt.push NoOwn hs hk ha σ.n μ) (fun o e => hk _ o e)
end

end Mine
end

noncomputable section
open PySem PySem.W PyProof.Rows PySem.Calls
set_option Elab.async false
set_option maxRecDepth 100000
namespace Mine

structure Sc where
  scope : Scope
  vars : List (Str × Nat × Bool)

noncomputable def Sc.has (S : Sc) (x : Str) (i : Nat) (b : Bool) : Prop := (x, i, b) ∈ S.vars

structure EnvOk (S : Sc) (env : Env) : Prop where
  scope : env.scope = S.scope
  kind : S.scope.kind = .function
  glob : env.globals = mainGlobals
  bi : env.builtins = builtinsNs
  kinds : ∀ x i b, (x, i, b) ∈ S.vars → S.scope.names.lookup x = some (if b then .cell else .local)
  uniq : ∀ x i b y j c, (x, i, b) ∈ S.vars → (y, j, c) ∈ S.vars → (x = y ↔ i = j)

structure Frm (C : Ctx) (S : Sc) (env : Env) (n : Nat) (μ : Nat → Addr) (ρ : Nat → Option AV) (h : Heap) : Prop where
  loc : ∃ m, h.Ns env.locals m ∧ ∀ x i, (x, i, false) ∈ S.vars → ∀ v, ρ i = some v → ∃ u, m x = some u ∧ VRep C.h0 n μ h v u
  cel : ∀ x i, (x, i, true) ∈ S.vars → ∃ c u', env.cells.lookup x = some c ∧ h.IsCell c u' ∧ ∀ v, ρ i = some v → ∃ u, u' = some u ∧ VRep C.h0 n μ h v u
  locmu : ∀ l, l < n → μ l ≠ env.locals
  celmu : ∀ x c, env.cells.lookup x = some c → ∀ l, l < n → μ l ≠ c
  celloc : ∀ x c, env.cells.lookup x = some c → c ≠ env.locals
  celinj : ∀ x y c, env.cells.lookup x = some c → env.cells.lookup y = some c → x = y
  locab : C.h0.objs.size ≤ env.locals
  celab : ∀ x c, env.cells.lookup x = some c → C.h0.objs.size ≤ c
  cellt : ∀ x c, env.cells.lookup x = some c → ∃ u, h.IsCell c u

theorem ns_notImm {h : Heap} {a m} (hn : h.Ns a m) : ∃ o, h.get? a = some o ∧ ¬ Imm o := by
  obtain ⟨o, es, ep, e, d, _⟩ := hn
  refine ⟨o, e, fun q => ?_⟩
  rcases q with ⟨_, _, _, z⟩ | ⟨c, dx, z⟩ | ⟨_, _, z⟩
  · rw [d] at z; cases z
  · rw [z] at d; cases d
  · rw [d] at z; cases z
theorem cell_notImm {h : Heap} {a u} (hn : h.IsCell a u) : ∃ o, h.get? a = some o ∧ ¬ Imm o := by
  obtain ⟨o, e, d⟩ := hn
  refine ⟨o, e, fun q => ?_⟩
  rcases q with ⟨_, _, _, z⟩ | ⟨c, dx, z⟩ | ⟨_, _, z⟩
  · rw [d] at z; cases z
  · rw [z] at d; cases d
  · rw [d] at z; cases z

theorem Frm.nxt {C S env n μ ρ h n' μ' h'} {own : Addr → Prop} (F : Frm C S env n μ ρ h) (x : Nxt n μ h n' μ' h' own)
    (ho1 : ¬ own env.locals) (ho2 : ∀ y c, env.cells.lookup y = some c → ¬ own c) : Frm C S env n' μ' ρ h' where
  loc := by
    obtain ⟨m, hn, hv⟩ := F.loc
    refine ⟨m, ?_, fun y i hy v e => ?_⟩
    · obtain ⟨o, es, ep, e, r⟩ := hn
      exact ⟨o, es, ep, x.keep _ _ e (fun l hl => Ne.symm (F.locmu l hl)) ho1, r⟩
    · obtain ⟨u, a, b⟩ := hv y i hy v e
      exact ⟨u, a, b.nxt x⟩
  cel := fun y i hy => by
    obtain ⟨c, u', a, ⟨o, e, d⟩, b⟩ := F.cel y i hy
    refine ⟨c, u', a, ⟨o, x.keep _ _ e (fun l hl => Ne.symm (F.celmu y c a l hl)) (ho2 y c a), d⟩, fun v e => ?_⟩
    obtain ⟨u, p, q⟩ := b v e
    exact ⟨u, p, q.nxt x⟩
  locmu := fun l hl => by
    by_cases q : l < n
    · rw [x.mu l q]; exact F.locmu l q
    · obtain ⟨m, hn, _⟩ := F.loc
      exact Nat.ne_of_gt (Nat.lt_of_lt_of_le hn.lt (x.fresh l (Nat.not_lt.mp q) hl))
  celmu := fun y c a l hl => by
    by_cases q : l < n
    · rw [x.mu l q]; exact F.celmu y c a l q
    · obtain ⟨u, hc⟩ := F.cellt y c a
      exact Nat.ne_of_gt (Nat.lt_of_lt_of_le hc.lt (x.fresh l (Nat.not_lt.mp q) hl))
  celloc := F.celloc
  celinj := F.celinj
  locab := F.locab
  celab := F.celab
  cellt := fun y c a => by
    obtain ⟨u, o, e, d⟩ := F.cellt y c a
    exact ⟨u, o, x.keep _ _ e (fun l hl => Ne.symm (F.celmu y c a l hl)) (ho2 y c a), d⟩

structure AOk (d : Nat) (A : Around) : Prop where
  hd : A.handled = none
  dep : A.depth + d < recursionLimit
  un : A.units + 20 * d + 80 < cLine

theorem AOk.mono {d d' A} (x : AOk d A) (h : d' ≤ d) : AOk d' A := ⟨x.hd, by have := x.dep; (first | lia | omega), by have := x.un; (first | lia | omega)⟩
theorem AOk.room {d A} (x : AOk d A) : A.units + 80 < cLine := by have := x.un; (first | lia | omega)

structure Pt (C : Ctx) (S : Sc) (d : Nat) (A : Around) (env : Env) (s : Shared) (μ : Nat → Addr) (ρ : Nat → Option AV) (σ : St) : Prop where
  a : AOk d A
  e : EnvOk S env
  r : Rel C μ σ s.heap
  f : Frm C S env σ.n μ ρ s.heap

/-- what a value's end must give -/
noncomputable def GoV (C : Ctx) (s : Shared) (μ : Nat → Addr) (σ : St) (P : AV → St → Prop) (Q : Value → Shared → Prop) : Prop :=
  ∀ v u σ' μ' h' t', Rel C μ' σ' h' → Nxt σ.n μ s.heap σ'.n μ' h' NoOwn → VRep C.h0 σ'.n μ' h' v u → P v σ' → Q u { s with heap := h', toks := t' }

noncomputable abbrev FE := (Nat → Option AV) → St → (AV → St → Prop) → Prop
noncomputable abbrev FB := (Nat → Option AV) → St → (Bool → St → Prop) → Prop
noncomputable abbrev F1 := AV → St → (AV → St → Prop) → Prop
noncomputable abbrev F2 := AV → AV → St → (AV → St → Prop) → Prop
noncomputable abbrev Fs := List AV → St → (AV → St → Prop) → Prop

structure SimE (C : Ctx) (S : Sc) (d : Nat) (e : Expr) (F : FE) : Prop where
  go : ∀ A env s μ ρ σ P Q E, Pt C S d A env s μ ρ σ → F ρ σ P → GoV C s μ σ P Q → wpAny (model C.prog C.w) A (eval e env) Q E s

/-- a test -/
structure SimB (C : Ctx) (S : Sc) (d : Nat) (e : Expr) (F : FB) : Prop where
  go : ∀ A env s μ ρ σ P (Q : Bool → Shared → Prop) E, Pt C S d A env s μ ρ σ → F ρ σ P →
    (∀ b σ' μ' h' t', Rel C μ' σ' h' → Nxt σ.n μ s.heap σ'.n μ' h' NoOwn → P b σ' → Q b { s with heap := h', toks := t' }) → wpAny (model C.prog C.w) A (isTrue e env (eval e env)) Q E s

/-- operations on values -/
noncomputable def Sim1 (C : Ctx) (d : Nat) (t : Value → Sem Value) (G : F1) : Prop :=
  ∀ A s μ σ a u P Q E, AOk d A → Rel C μ σ s.heap → VRep C.h0 σ.n μ s.heap a u → G a σ P → GoV C s μ σ P Q → wpAny (model C.prog C.w) A (t u) Q E s
noncomputable def Sim2 (C : Ctx) (d : Nat) (t : Value → Value → Sem Value) (G : F2) : Prop :=
  ∀ A s μ σ a b u v P Q E, AOk d A → Rel C μ σ s.heap → VRep C.h0 σ.n μ s.heap a u → VRep C.h0 σ.n μ s.heap b v → G a b σ P → GoV C s μ σ P Q → wpAny (model C.prog C.w) A (t u v) Q E s
noncomputable def SimN (C : Ctx) (d : Nat) (t : List Value → Sem Value) (G : Fs) : Prop :=
  ∀ A s μ σ as us P Q E, AOk d A → Rel C μ σ s.heap → VReps C.h0 σ.n μ s.heap as us → G as σ P → GoV C s μ σ P Q → wpAny (model C.prog C.w) A (t us) Q E s

/-- what is known behind a value -/
structure Then (C : Ctx) (S : Sc) (d : Nat) (A : Around) (env : Env) (s : Shared) (μ : Nat → Addr) (ρ : Nat → Option AV) (σ : St) (P : AV → St → Prop) (u : Value) (s' : Shared) : Prop where
  out : ∃ v σ' μ' h' t', s' = { s with heap := h', toks := t' } ∧ Pt C S d A env s' μ' ρ σ' ∧ Nxt σ.n μ s.heap σ'.n μ' h' NoOwn ∧ VRep C.h0 σ'.n μ' h' v u ∧ P v σ'

section
variable {C : Ctx} {S : Sc} {d : Nat} {A : Around} {env : Env} {s : Shared} {μ : Nat → Addr} {ρ : Nat → Option AV} {σ : St}

theorem Pt.nxt {σ' : St} {μ' : Nat → Addr} {h' : Heap} {t' : Nat} (p : Pt C S d A env s μ ρ σ) (R : Rel C μ' σ' h') (x : Nxt σ.n μ s.heap σ'.n μ' h' NoOwn) : Pt C S d A env { s with heap := h', toks := t' } μ' ρ σ' :=
  ⟨p.a, p.e, R, p.f.nxt x (fun z => z) fun zz1 zz2 zz3 z => z⟩

theorem SimE.run {e : Expr} {F : FE} {P : AV → St → Prop} {E : Value → Shared → Prop} (H : SimE C S d e F) (p : Pt C S d A env s μ ρ σ) (f : F ρ σ P) :
    wpAny (model C.prog C.w) A (eval e env) (fun u s' => ∃ v σ' μ' h' t', s' = { s with heap := h', toks := t' } ∧ Pt C S d A env { s with heap := h', toks := t' } μ' ρ σ' ∧ Nxt σ.n μ s.heap σ'.n μ' h' NoOwn ∧ VRep C.h0 σ'.n μ' h' v u ∧ P v σ') E s :=
  H.go A env s μ ρ σ P _ E p f fun v u σ' μ' h' t' R x r q => ⟨v, σ', μ', h', t', rfl, p.nxt R x, x, r, q⟩

theorem SimB.run {e : Expr} {F : FB} {P : Bool → St → Prop} {E : Value → Shared → Prop} (H : SimB C S d e F) (p : Pt C S d A env s μ ρ σ) (f : F ρ σ P) :
    wpAny (model C.prog C.w) A (isTrue e env (eval e env)) (fun b s' => ∃ σ' μ' h' t', s' = { s with heap := h', toks := t' } ∧ Pt C S d A env { s with heap := h', toks := t' } μ' ρ σ' ∧ Nxt σ.n μ s.heap σ'.n μ' h' NoOwn ∧ P b σ') E s :=
  H.go A env s μ ρ σ P _ E p f fun b σ' μ' h' t' R x q => ⟨σ', μ', h', t', rfl, p.nxt R x, x, q⟩

/-- the end of a value behind a step -/
theorem GoV.after {P Q} {σ' : St} {μ' : Nat → Addr} {h' : Heap} {t' : Nat} (k : GoV C s μ σ P Q) (x : Nxt σ.n μ s.heap σ'.n μ' h' NoOwn) : GoV C { s with heap := h', toks := t' } μ' σ' P Q :=
  fun v u σ'' μ'' h'' t'' R y r q => k v u σ'' μ'' h'' t'' R (x.trans y) r q

/-- nothing but the clock moved -/
theorem GoV.same {P : AV → St → Prop} {Q} {v : AV} {u : Value} (k : GoV C s μ σ P Q) (R : Rel C μ σ s.heap) (r : VRep C.h0 σ.n μ s.heap v u) (q : P v σ) (t' : Nat) : Q u { s with toks := t' } :=
  k v u σ μ s.heap t' R (Nxt.refl ..) r q

theorem GoV.grow {P : AV → St → Prop} {Q} {v : AV} {u : Value} {h' : Heap} (k : GoV C s μ σ P Q) (R : Rel C μ σ s.heap) (hs : s.heap.objs.size ≤ h'.objs.size) (hk : ∀ a o, s.heap.get? a = some o → h'.get? a = some o)
    (r : VRep C.h0 σ.n μ h' v u) (q : P v σ) (t' : Nat) : Q u { s with heap := h', toks := t' } :=
  k v u σ μ h' t' (R.grow hs hk) (Nxt.grow NoOwn hs hk σ.n μ) r q
end

/-! ### expressions -/
namespace Ex
@[reducible] noncomputable def const (v : AV) : FE := fun zz1 σ P => P v σ
@[reducible] noncomputable def var (i : Nat) : FE := fun ρ σ P => ∃ v, ρ i = some v ∧ P v σ
@[reducible] noncomputable def op1 (G : F1) (a : FE) : FE := fun ρ σ P => a ρ σ fun v σ => G v σ P
@[reducible] noncomputable def op2 (G : F2) (a b : FE) : FE := fun ρ σ P => a ρ σ fun v σ => b ρ σ fun w σ => G v w σ P
@[reducible] noncomputable def evs : List FE → (Nat → Option AV) → St → (List AV → St → Prop) → Prop
  | [], _, σ, P => P [] σ
  | f :: fs, ρ, σ, P => f ρ σ fun v σ => evs fs ρ σ fun vs σ => P (v :: vs) σ
@[reducible] noncomputable def ops (G : Fs) (fs : List FE) : FE := fun ρ σ P => evs fs ρ σ fun vs σ => G vs σ P
@[reducible] noncomputable def ife (c : FB) (a b : FE) : FE := fun ρ σ P => c ρ σ fun t σ => (t = true → a ρ σ P) ∧ (t = false → b ρ σ P)
@[reducible] noncomputable def tup : Fs := fun vs σ P => P (.tup vs) σ
@[reducible] noncomputable def list : Fs := fun vs σ P => P (.ref σ.n) (σ.push (.list vs))
end Ex
namespace Bx
@[reducible] noncomputable def op1 (G : AV → St → (Bool → St → Prop) → Prop) (a : FE) : FB := fun ρ σ P => a ρ σ fun v σ => G v σ P
@[reducible] noncomputable def cmp (G : F2) (a b : FE) : FB := fun ρ σ P => a ρ σ fun v σ => b ρ σ fun w σ => G v w σ fun r σ => ∃ b, r = .bool b ∧ P b σ
@[reducible] noncomputable def val (a : FE) : FB := fun ρ σ P => a ρ σ fun r σ => ∃ b, r = .bool b ∧ P b σ
@[reducible] noncomputable def not (a : FB) : FB := fun ρ σ P => a ρ σ fun b σ => P (!b) σ
@[reducible] noncomputable def and (a b : FB) : FB := fun ρ σ P => a ρ σ fun x σ => (x = true → b ρ σ P) ∧ (x = false → P false σ)
@[reducible] noncomputable def or (a b : FB) : FB := fun ρ σ P => a ρ σ fun x σ => (x = true → P true σ) ∧ (x = false → b ρ σ P)
end Bx

section
variable {C : Ctx} {S : Sc} {d : Nat}

theorem simConst_none {k pos} : SimE C S d (.Constant .none k pos) (Ex.const .none) :=
  ⟨fun zz1 zz2 s zz3 zz4 zz5 zz6 zz7 zz8 p f g => wpAny_Constant_none (g.same p.r .none f s.toks)⟩
theorem simConst_bool {b k pos} : SimE C S d (.Constant (.bool b) k pos) (Ex.const (.bool b)) :=
  ⟨fun zz1 zz2 s zz3 zz4 zz5 zz6 zz7 zz8 p f g => wpAny_Constant_bool (g.same p.r (.bool b) f s.toks)⟩
theorem simConst_int {i k pos} : SimE C S d (.Constant (.int i) k pos) (Ex.const (.int i)) :=
  ⟨fun zz1 zz2 s zz3 zz4 zz5 zz6 zz7 zz8 p f g => wpAny_Constant_int (g.same p.r (.int i s.toks) f (s.toks + 1))⟩
theorem simConst_str {x k pos} : SimE C S d (.Constant (.str x) k pos) (Ex.const (.str x)) :=
  ⟨fun zz1 zz2 s zz3 zz4 zz5 zz6 zz7 zz8 p f g => wpAny_Constant_str (g.same p.r (.str x s.toks) f (s.toks + 1))⟩

theorem simVar {x : Str} {pos} {i : Nat} {b : Bool} (hx : (x, i, b) ∈ S.vars) (hd : (x == ("__debug__" : Str)) = false := by decide) : SimE C S d (.Name x pos) (Ex.var i) := by
  constructor
  intro A env s μ ρ σ P Q E p f g
  obtain ⟨v, hv, hp⟩ := f
  have hk : env.scope.kind = .function := p.e.scope ▸ p.e.kind
  have hl : env.kindOf x = some (if b then .cell else .local) := by unfold Env.kindOf; rw [p.e.scope]; exact p.e.kinds x i b hx
  cases b with
  | false =>
    obtain ⟨m, hn, hm⟩ := p.f.loc
    obtain ⟨u, e, r⟩ := hm x i hx v hv
    exact wpAny_Name (wpAny_loadName_local hk hl hn e (g.same p.r r hp s.toks)) hd
  | true =>
    obtain ⟨c, u', a, hc, hm⟩ := p.f.cel x i hx
    obtain ⟨u, rfl, r⟩ := hm v hv
    exact wpAny_Name (wpAny_loadName_cell hk hl a hc (g.same p.r r hp s.toks)) hd

/-- a global that stands for a value -/
theorem simGlob {x : Str} {pos} {v : AV} {u : Value} (hx : S.scope.names.lookup x = some .globalImplicit) (e : nsIn C.K mainGlobals x = some (some u))
    (hv : ∀ n μ h, (∀ a o, C.h0.get? a = some o → h.get? a = some o) → VRep C.h0 n μ h v u) (hd : (x == ("__debug__" : Str)) = false := by decide) : SimE C S d (.Name x pos) (Ex.const v) := by
  constructor
  intro A env s μ ρ σ P Q E p f g
  have hk : env.scope.kind = .function := p.e.scope ▸ p.e.kind
  have hl : env.kindOf x = some .globalImplicit := by unfold Env.kindOf; rw [p.e.scope]; exact hx
  exact Name_function_global hk hl (loadGlobal_global (env := env) (by rw [p.e.glob]; exact C.T.g.keeps p.r.base) (mg_of C.KX C.T.g e) (g.same p.r (hv _ _ _ p.r.base) f s.toks)) hd

theorem simOp1 {op : UnaryOp} {a : Expr} {pos} {fa : FE} {G : F1} (ha : SimE C S d a fa) (hg : Sim1 C d (unaryOp op) G) : SimE C S d (.UnaryOp op a pos) (Ex.op1 G fa) := by
  constructor
  intro A env s μ ρ σ P Q E p f g
  refine wpAny_UnaryOp (wpAny_mono (ha.run p f) (fun u s' h => ?_) fun zz1 zz2 e => e)
  obtain ⟨v, σ', μ', h', t', rfl, p', x, r, q⟩ := h
  exact hg A _ μ' σ' v u P Q E p.a p'.r r q (g.after x)

theorem simBin {op : Operator} {a b : Expr} {pos} {fa fb : FE} {G : F2} (ha : SimE C S d a fa) (hb : SimE C S d b fb) (hg : Sim2 C d (binaryOp op) G) : SimE C S d (.BinOp a op b pos) (Ex.op2 G fa fb) := by
  constructor
  intro A env s μ ρ σ P Q E p f g
  refine wpAny_BinOp (wpAny_mono (ha.run p f) (fun u s' h => ?_) fun zz1 zz2 e => e)
  obtain ⟨v, σ', μ', h', t', rfl, p', x, r, q⟩ := h
  refine wpAny_mono (hb.run p' q) (fun u2 s' h => ?_) fun zz1 zz2 e => e
  obtain ⟨v2, σ2, μ2, h2, t2, rfl, p2, x2, r2, q2⟩ := h
  exact hg A _ μ2 σ2 v v2 u u2 P Q E p.a p2.r (r.nxt x2) r2 q2 (g.after (x.trans x2))

theorem simCmp {op : CmpOp} {a b : Expr} {pos} {fa fb : FE} {G : F2} (ha : SimE C S d a fa) (hb : SimE C S d b fb) (hg : Sim2 C d (compareOp op) G)
    (hm : behindInMarks op b = false := by with_unfolding_all rfl) : SimE C S d (.Compare a [op] [b] pos) (Ex.op2 G fa fb) := by
  constructor
  intro A env s μ ρ σ P Q E p f g
  refine wpAny_Compare1 (wpAny_mono (ha.run p f) (fun u s' h => ?_) fun zz1 zz2 e => e) hm
  obtain ⟨v, σ', μ', h', t', rfl, p', x, r, q⟩ := h
  refine wpAny_mono (hb.run p' q) (fun u2 s' h => ?_) fun zz1 zz2 e => e
  obtain ⟨v2, σ2, μ2, h2, t2, rfl, p2, x2, r2, q2⟩ := h
  exact hg A _ μ2 σ2 v v2 u u2 P Q E p.a p2.r (r.nxt x2) r2 q2 (g.after (x.trans x2))

theorem simIfe {c a b : Expr} {pos} {fc : FB} {fa fb : FE} (hc : SimB C S d c fc) (ha : SimE C S d a fa) (hb : SimE C S d b fb) : SimE C S d (.IfExp c a b pos) (Ex.ife fc fa fb) := by
  constructor
  intro A env s μ ρ σ P Q E p f g
  refine wpAny_IfExp (wpAny_mono (hc.run p f) (fun t s' h => ?_) fun zz1 zz2 e => e)
  obtain ⟨σ', μ', h', t', rfl, p', x, q⟩ := h
  cases t with
  | true => exact ha.go A env _ μ' ρ σ' P Q E p' (q.1 rfl) (g.after x)
  | false => exact hb.go A env _ μ' ρ σ' P Q E p' (q.2 rfl) (g.after x)

theorem simAnd2 {a b : Expr} {pos} {fa fb : FE} (ha : SimE C S d a fa) (hb : SimE C S d b fb) :
    SimE C S d (.BoolOp .And [a, b] pos) (fun ρ σ P => fa ρ σ fun v σ => ∃ t, v = .bool t ∧ (t = true → fb ρ σ P) ∧ (t = false → P (.bool false) σ)) := by
  constructor
  intro A env s μ ρ σ P Q E p f g
  refine wpAny_And2 (wpAny_mono (ha.run p f) (fun u s' h => ?_) fun zz1 zz2 e => e)
  obtain ⟨v, σ', μ', h', t', rfl, p', x, r, t, rfl, q1, q2⟩ := h
  cases r
  refine wpAny_truthy_bool ?_
  cases t with
  | true => exact hb.go A env _ μ' ρ σ' P Q E p' (q1 rfl) (g.after x)
  | false => exact g _ _ σ' μ' h' _ p'.r x (.bool false) (q2 rfl)

theorem simB_val {e : Expr} {f : FE} (he : SimE C S d e f) (hw : ∀ env whole, isTrue e env whole = (do let v ← whole; standAt e.pos; holding [v] (truthy v)) := by intros; rfl) : SimB C S d e (Bx.val f) := by
  constructor
  intro A env s μ ρ σ P Q E p hf g
  refine wpAny_isTrue_value (wpAny_mono (he.run p hf) (fun u s' h => ?_) fun zz1 zz2 e => e) (hw _ _)
  obtain ⟨v, σ', μ', h', t', rfl, p', x, r, b, rfl, q⟩ := h
  cases r
  exact wpAny_truthy_bool (g b σ' μ' h' t' p'.r x q)

theorem simB_cmp {op : CmpOp} {a b : Expr} {pos} {fa fb : FE} {G : F2} (ha : SimE C S d a fa) (hb : SimE C S d b fb) (hg : Sim2 C d (compareOp op) G)
    (hm : behindInMarks op b = false := by with_unfolding_all rfl) : SimB C S d (.Compare a [op] [b] pos) (Bx.cmp G fa fb) := by
  constructor
  intro A env s μ ρ σ P Q E p f g
  refine wpAny_isTrue_Compare1 (wpAny_mono (ha.run p f) (fun u s' h => ?_) fun zz1 zz2 e => e) hm
  obtain ⟨v, σ', μ', h', t', rfl, p', x, r, q⟩ := h
  refine wpAny_mono (hb.run p' q) (fun u2 s' h => ?_) fun zz1 zz2 e => e
  obtain ⟨v2, σ2, μ2, h2, t2, rfl, p2, x2, r2, q2⟩ := h
  refine hg A _ μ2 σ2 v v2 u u2 _ _ E p.a p2.r (r.nxt x2) r2 q2 ?_
  intro v3 u3 σ3 μ3 h3 t3 R3 x3 r3 q3
  obtain ⟨b, rfl, q3⟩ := q3
  cases r3
  exact wpAny_truthy_bool (g b σ3 μ3 h3 t3 R3 ((x.trans x2).trans x3) q3)

theorem simB_not {e : Expr} {pos} {f : FB} (he : SimB C S d e f) : SimB C S d (.UnaryOp .Not e pos) (Bx.not f) := by
  constructor
  intro A env s μ ρ σ P Q E p hf g
  refine wpAny_isTrue_Not (wpAny_mono (he.run p hf) (fun b s' h => ?_) fun zz1 zz2 e => e)
  obtain ⟨σ', μ', h', t', rfl, p', x, q⟩ := h
  exact g (!b) σ' μ' h' t' p'.r x q

theorem simB_and {a b : Expr} {pos} {fa fb : FB} (ha : SimB C S d a fa) (hb : SimB C S d b fb) : SimB C S d (.BoolOp .And [a, b] pos) (Bx.and fa fb) := by
  constructor
  intro A env s μ ρ σ P Q E p hf g
  refine wpAny_isTrue_BoolOp (wpAny_allTrue_And_cons (wpAny_mono (ha.run p hf) (fun t s' h => ?_) fun zz1 zz2 e => e))
  obtain ⟨σ', μ', h', t', rfl, p', x, q⟩ := h
  cases t with
  | false => exact g false σ' μ' h' t' p'.r x (q.2 rfl)
  | true =>
    refine wpAny_allTrue_And_cons (wpAny_mono (hb.run p' (q.1 rfl)) (fun t s' h => ?_) fun zz1 zz2 e => e)
    obtain ⟨σ2, μ2, h2, t2, rfl, p2, x2, q2⟩ := h
    cases t with
    | false => exact g false σ2 μ2 h2 t2 p2.r (x.trans x2) q2
    | true => exact wpAny_allTrue_And_nil (g true σ2 μ2 h2 t2 p2.r (x.trans x2) q2)

theorem simB_or {a b : Expr} {pos} {fa fb : FB} (ha : SimB C S d a fa) (hb : SimB C S d b fb) : SimB C S d (.BoolOp .Or [a, b] pos) (Bx.or fa fb) := by
  constructor
  intro A env s μ ρ σ P Q E p hf g
  refine wpAny_isTrue_BoolOp (wpAny_allTrue_Or_cons (wpAny_mono (ha.run p hf) (fun t s' h => ?_) fun zz1 zz2 e => e))
  obtain ⟨σ', μ', h', t', rfl, p', x, q⟩ := h
  cases t with
  | true => exact g true σ' μ' h' t' p'.r x (q.1 rfl)
  | false =>
    refine wpAny_allTrue_Or_cons (wpAny_mono (hb.run p' (q.2 rfl)) (fun t s' h => ?_) fun zz1 zz2 e => e)
    obtain ⟨σ2, μ2, h2, t2, rfl, p2, x2, q2⟩ := h
    cases t with
    | true => exact g true σ2 μ2 h2 t2 p2.r (x.trans x2) q2
    | false => exact wpAny_allTrue_Or_nil (g false σ2 μ2 h2 t2 p2.r (x.trans x2) q2)

/-- several expressions, one behind the other -/
inductive SimEs (C : Ctx) (S : Sc) (d : Nat) : List Expr → List FE → Prop
  | nil : SimEs C S d [] []
  | cons {e es f fs} : SimE C S d e f → SimEs C S d es fs → (∀ env, starEach (e :: es) env = (false, eval e env) :: starEach es env) → SimEs C S d (e :: es) (f :: fs)

theorem SimEs.run {es fs} (H : SimEs C S d es fs) : ∀ {A env s μ ρ σ P} {E : Value → Shared → Prop} {pos : Pos}, Pt C S d A env s μ ρ σ → Ex.evs fs ρ σ P →
    wpAny (model C.prog C.w) A (spliced (backTo pos (starEach es env))) (fun us s' => ∃ vs σ' μ' h' t', s' = { s with heap := h', toks := t' } ∧ Pt C S d A env { s with heap := h', toks := t' } μ' ρ σ' ∧ Nxt σ.n μ s.heap σ'.n μ' h' NoOwn ∧
      VReps C.h0 σ'.n μ' h' vs us ∧ us.length = es.length ∧ P vs σ') E s := by
  induction H with
  | nil => intro A env s μ ρ σ P E pos p f; exact wpAny_items_nil ⟨[], σ, μ, s.heap, s.toks, rfl, p, Nxt.refl .., .nil, rfl, f⟩
  | cons he _ hs ih =>
    intro A env s μ ρ σ P E pos p f
    refine wpAny_items_cons (wpAny_mono (he.run p f) (fun u s' h => ?_) fun zz1 zz2 e => e) (hs env)
    obtain ⟨v, σ', μ', h', t', rfl, p', x, r, q⟩ := h
    refine wpAny_mono (ih p' q) (fun us s' h => ?_) fun zz1 zz2 e => e
    obtain ⟨vs, σ2, μ2, h2, t2, rfl, p2, x2, r2, hl, q2⟩ := h
    exact ⟨v :: vs, σ2, μ2, h2, t2, rfl, p2, x.trans x2, .cons _ _ _ _ (r.nxt x2) r2, by simp [hl], q2⟩

theorem VRep.new_tup {h0 n μ} {h : Heap} {vs us} (r : VReps h0 n μ h vs us) :
    VRep h0 n μ (h.push { cls := .type "tuple", data := .seq us.toArray }) (.tup vs) (.ref h.objs.size) :=
  .tup vs _ us.toArray 0 (Heap.get?_push_size _ rfl) (r.nxt (Nxt.grow NoOwn (by simp) (fun a o e => Heap.get?_push_of_some _ e) n μ))

theorem le_line {n : Nat} (h : n ≤ 1000000) : n ≤ sizeLine := by rw [sizeLine_eq]; (first | lia | omega)

theorem push_le (h : Heap) (o : Obj) : h.objs.size ≤ (h.push o).objs.size := by simp

theorem simTup {es fs k pos} (H : SimEs C S d es fs) (hl : es.length ≤ 1000 := by decide) : SimE C S d (.Tuple es k pos) (Ex.ops Ex.tup fs) := by
  constructor
  intro A env s μ ρ σ P Q E p f g
  refine wpAny_Tuple (wpAny_mono (H.run p f) (fun us s' h => ?_) fun zz1 zz2 e => e)
  obtain ⟨vs, σ', μ', h', t', rfl, p', x, r, hn, q⟩ := h
  refine ⟨le_line (by (first | lia | omega)), ?_⟩
  exact (g.after (t' := t') x).grow p'.r (push_le _ _) (fun a o e => Heap.get?_push_of_some _ e) (VRep.new_tup r) q t'

theorem new_list {vs : List AV} {us : List Value} {σ : St} {μ : Nat → Addr} {h : Heap} (R : Rel C μ σ h) (r : VReps C.h0 σ.n μ h vs us) :
    Rel C (upd μ σ.n h.objs.size) (σ.push (.list vs)) (h.push { cls := .type "list", data := .seq us.toArray }) ∧
    Nxt σ.n μ h (σ.n + 1) (upd μ σ.n h.objs.size) (h.push { cls := .type "list", data := .seq us.toArray }) NoOwn ∧
    VRep C.h0 (σ.n + 1) (upd μ σ.n h.objs.size) (h.push { cls := .type "list", data := .seq us.toArray }) (.ref σ.n) (.ref h.objs.size) := by
  have x := Nxt.push (h := h) (h' := h.push { cls := .type "list", data := .seq us.toArray }) NoOwn (push_le _ _) (fun a o e => Heap.get?_push_of_some _ e) (Nat.le_refl _) σ.n μ
  refine ⟨R.push (push_le _ _) (fun a o e => Heap.get?_push_of_some _ e) (Nat.le_refl _) ⟨us.toArray, 0, Heap.get?_push_size _ rfl, by simpa using r.nxt x⟩, x, ?_⟩
  have := VRep.ref (h0 := C.h0) (n := σ.n + 1) (μ := upd μ σ.n h.objs.size) (h := h.push { cls := .type "list", data := .seq us.toArray }) σ.n (Nat.lt_succ_self _)
  simpa [upd] using this

theorem simList {es fs pos} (H : SimEs C S d es fs) (hl : es.length ≤ 1000 := by decide) : SimE C S d (.List es pos) (Ex.ops Ex.list fs) := by
  constructor
  intro A env s μ ρ σ P Q E p f g
  refine wpAny_List (wpAny_mono (H.run p f) (fun us s' h => ?_) fun zz1 zz2 e => e)
  obtain ⟨vs, σ', μ', h', t', rfl, p', x, r, hn, q⟩ := h
  refine ⟨le_line (by (first | lia | omega)), ?_⟩
  obtain ⟨R', x', r'⟩ := new_list p'.r r
  exact g _ _ _ _ _ t' R' (x.trans x') r' q
end
end Mine
end

noncomputable section
open PySem PySem.W PyProof.Rows PySem.Calls
set_option Elab.async false
set_option maxRecDepth 100000
namespace Mine

inductive Fl where
  | next | brk | cont | ret (v : AV)

noncomputable abbrev Rho := Nat → Option AV
noncomputable abbrev FS := Rho → St → (Fl → Rho → St → Prop) → Prop

inductive FlRep (h0 : Heap) (n : Nat) (μ : Nat → Addr) (h : Heap) : Fl → Flow → Prop
  | next : FlRep h0 n μ h .next .next
  | brk : FlRep h0 n μ h .brk .brk
  | cont : FlRep h0 n μ h .cont .cont
  | ret (v u) : VRep h0 n μ h v u → FlRep h0 n μ h (.ret v) (.ret u)

noncomputable def ownOf (env : Env) (a : Addr) : Prop := a = env.locals ∨ ∃ x, env.cells.lookup x = some a

noncomputable def GoS (C : Ctx) (S : Sc) (env : Env) (s : Shared) (μ : Nat → Addr) (σ : St) (P : Fl → Rho → St → Prop) (Q : Flow → Shared → Prop) : Prop :=
  ∀ f ff ρ' σ' μ' h' t', Rel C μ' σ' h' → Nxt σ.n μ s.heap σ'.n μ' h' (ownOf env) → Frm C S env σ'.n μ' ρ' h' → FlRep C.h0 σ'.n μ' h' f ff → P f ρ' σ' → Q ff { s with heap := h', toks := t' }

structure SimS (C : Ctx) (S : Sc) (d : Nat) (st : Stmt) (F : FS) : Prop where
  go : ∀ A env s μ ρ σ P Q E, Pt C S d A env s μ ρ σ → F ρ σ P → GoS C S env s μ σ P Q → wpAny (model C.prog C.w) A (exec st env) Q E s
structure SimSs (C : Ctx) (S : Sc) (d : Nat) (sts : List Stmt) (F : FS) : Prop where
  go : ∀ A env s μ ρ σ P Q E, Pt C S d A env s μ ρ σ → F ρ σ P → GoS C S env s μ σ P Q → wpAny (model C.prog C.w) A (execs sts env) Q E s

section
variable {C : Ctx} {S : Sc} {d : Nat} {A : Around} {env : Env} {s : Shared} {μ : Nat → Addr} {ρ : Rho} {σ : St}

theorem Pt.stepS {ρ' : Rho} {σ' : St} {μ' : Nat → Addr} {h' : Heap} {t' : Nat} (p : Pt C S d A env s μ ρ σ) (R : Rel C μ' σ' h') (F : Frm C S env σ'.n μ' ρ' h') : Pt C S d A env { s with heap := h', toks := t' } μ' ρ' σ' := ⟨p.a, p.e, R, F⟩

theorem GoS.after {P Q} {σ' : St} {μ' : Nat → Addr} {h' : Heap} {t' : Nat} (k : GoS C S env s μ σ P Q) (x : Nxt σ.n μ s.heap σ'.n μ' h' (ownOf env)) : GoS C S env { s with heap := h', toks := t' } μ' σ' P Q :=
  fun f ff ρ'' σ'' μ'' h'' t'' R y F r q => k f ff ρ'' σ'' μ'' h'' t'' R (x.trans y) F r q

theorem Nxt.toOwn {n μ h n' μ' h'} (x : Nxt n μ h n' μ' h' NoOwn) (own : Addr → Prop) : Nxt n μ h n' μ' h' own := x.own fun zz1 z => z.elim

theorem SimS.run {st : Stmt} {F : FS} {P : Fl → Rho → St → Prop} {E : Value → Shared → Prop} (H : SimS C S d st F) (p : Pt C S d A env s μ ρ σ) (f : F ρ σ P) :
    wpAny (model C.prog C.w) A (exec st env) (fun ff s' => ∃ f ρ' σ' μ' h' t', s' = { s with heap := h', toks := t' } ∧ Pt C S d A env { s with heap := h', toks := t' } μ' ρ' σ' ∧ Nxt σ.n μ s.heap σ'.n μ' h' (ownOf env) ∧ FlRep C.h0 σ'.n μ' h' f ff ∧ P f ρ' σ') E s :=
  H.go A env s μ ρ σ P _ E p f fun f ff ρ' σ' μ' h' t' R x F r q => ⟨f, ρ', σ', μ', h', t', rfl, p.stepS R F, x, r, q⟩
theorem SimSs.run {sts : List Stmt} {F : FS} {P : Fl → Rho → St → Prop} {E : Value → Shared → Prop} (H : SimSs C S d sts F) (p : Pt C S d A env s μ ρ σ) (f : F ρ σ P) :
    wpAny (model C.prog C.w) A (execs sts env) (fun ff s' => ∃ f ρ' σ' μ' h' t', s' = { s with heap := h', toks := t' } ∧ Pt C S d A env { s with heap := h', toks := t' } μ' ρ' σ' ∧ Nxt σ.n μ s.heap σ'.n μ' h' (ownOf env) ∧ FlRep C.h0 σ'.n μ' h' f ff ∧ P f ρ' σ') E s :=
  H.go A env s μ ρ σ P _ E p f fun f ff ρ' σ' μ' h' t' R x F r q => ⟨f, ρ', σ', μ', h', t', rfl, p.stepS R F, x, r, q⟩

/-- a name is stored: what is changed is the frame's, or one cell of it -/
theorem storeVar {x : Str} {i : Nat} {b : Bool} {v : AV} {u : Value} {Q : Unit → Shared → Prop} {E : Value → Shared → Prop} {own : Addr → Prop} (p : Pt C S d A env s μ ρ σ) (hx : (x, i, b) ∈ S.vars)
    (r : VRep C.h0 σ.n μ s.heap v u) (ho1 : b = false → own env.locals) (ho2 : b = true → ∀ c, env.cells.lookup x = some c → own c)
    (k : ∀ h' t', Rel C μ σ h' → Nxt σ.n μ s.heap σ.n μ h' own → Frm C S env σ.n μ (upd ρ i (some v)) h' → Q () { s with heap := h', toks := t' }) :
    wpAny (model C.prog C.w) A (storeName env x u) Q E s := by
  have hk : env.scope.kind = .function := p.e.scope ▸ p.e.kind
  have hl : env.kindOf x = some (if b then .cell else .local) := by unfold Env.kindOf; rw [p.e.scope]; exact p.e.kinds x i b hx
  have hp : (env.scope.kind == .class || (env.scope.kind == .module && env.locals != env.globals)) = false := by rw [hk]; rfl
  have ss : s = { s with heap := s.heap, toks := s.toks } := rfl
  cases b with
  | false =>
    obtain ⟨m, hn, hm⟩ := p.f.loc
    obtain ⟨ol, el, il⟩ := ns_notImm hn
    refine wpAny_storeName_local hl hn (fun h' hn' hs => ?_) hp
    have X := Nxt.other own hs (ho1 rfl) el il σ.n μ
    refine k h' _ (p.r.other hs p.f.locmu p.f.locab el il) X ?_
    refine ⟨⟨_, hn', fun y j hy w e => ?_⟩, fun y j hy => ?_, p.f.locmu, p.f.celmu, p.f.celloc, p.f.celinj, p.f.locab, p.f.celab, fun y c hc => ?_⟩
    · have q := p.e.uniq x i false y j false hx hy
      by_cases z : j = i
      · obtain rfl := q.mpr z.symm
        simp only [upd, z, if_true, Option.some.injEq] at e
        subst e
        exact ⟨u, by simp, r.nxt X⟩
      · simp only [upd, z, if_false] at e
        obtain ⟨u', a, b⟩ := hm y j hy w e
        exact ⟨u', by rw [if_neg (fun c => z (q.mp c.symm).symm)]; exact a, b.nxt X⟩
    · obtain ⟨c, u', hc, ⟨o, e, dd⟩, hv⟩ := p.f.cel y j hy
      refine ⟨c, u', hc, ⟨o, (hs.2 c (p.f.celloc y c hc)).trans e, dd⟩, fun w e' => ?_⟩
      have q := p.e.uniq x i false y j true hx hy
      have z : j ≠ i := fun z => by
        obtain rfl := q.mpr z.symm
        have a := p.e.kinds x i false hx
        have b := p.e.kinds x j true hy
        rw [a] at b; cases b
      simp only [upd, z, if_false] at e'
      obtain ⟨w', a, b⟩ := hv w e'
      exact ⟨w', a, b.nxt X⟩
    · obtain ⟨u', o, e, dd⟩ := p.f.cellt y c hc
      exact ⟨u', o, (hs.2 c (p.f.celloc y c hc)).trans e, dd⟩
  | true =>
    obtain ⟨c, u', hc, hcell, hv⟩ := p.f.cel x i hx
    obtain ⟨ol, el, il⟩ := cell_notImm hcell
    refine wpAny_storeName_cell hk hl hc hcell fun h' hc' hs => ?_
    have X := Nxt.other own hs (ho2 rfl c hc) el il σ.n μ
    refine k h' _ (p.r.other hs (p.f.celmu x c hc) (p.f.celab x c hc) el il) X ?_
    refine ⟨?_, fun y j hy => ?_, p.f.locmu, p.f.celmu, p.f.celloc, p.f.celinj, p.f.locab, p.f.celab, fun y c' hc2 => ?_⟩
    · obtain ⟨m, hn, hm⟩ := p.f.loc
      refine ⟨m, hn.sameBut hs (Ne.symm (p.f.celloc x c hc)), fun y j hy w e => ?_⟩
      have q := p.e.uniq x i true y j false hx hy
      have z : j ≠ i := fun z => by
        obtain rfl := q.mpr z.symm
        have a := p.e.kinds x i true hx
        have b := p.e.kinds x j false hy
        rw [a] at b; cases b
      simp only [upd, z, if_false] at e
      obtain ⟨w', a, b⟩ := hm y j hy w e
      exact ⟨w', a, b.nxt X⟩
    · have q := p.e.uniq x i true y j true hx hy
      by_cases z : j = i
      · obtain rfl := q.mpr z.symm
        refine ⟨c, some u, hc, hc', fun w e => ?_⟩
        simp only [upd, z, if_true, Option.some.injEq] at e
        subst e
        exact ⟨u, rfl, r.nxt X⟩
      · obtain ⟨c2, u2, hc2, hcell2, hv2⟩ := p.f.cel y j hy
        have ne : c2 ≠ c := fun e => z ((q.mp (p.f.celinj x y c hc (e ▸ hc2))).symm)
        refine ⟨c2, u2, hc2, hcell2.sameBut hs ne, fun w e => ?_⟩
        simp only [upd, z, if_false] at e
        obtain ⟨w', a, b⟩ := hv2 w e
        exact ⟨w', a, b.nxt X⟩
    · by_cases z : c' = c
      · subst z; exact ⟨_, hc'⟩
      · obtain ⟨u2, hcell2⟩ := p.f.cellt y c' hc2
        exact ⟨u2, hcell2.sameBut hs z⟩

theorem ownStore {x : Str} {i : Nat} {b : Bool} {v : AV} {u : Value} {Q : Unit → Shared → Prop} {E : Value → Shared → Prop} (p : Pt C S d A env s μ ρ σ) (hx : (x, i, b) ∈ S.vars)
    (r : VRep C.h0 σ.n μ s.heap v u)
    (k : ∀ h' t', Rel C μ σ h' → Nxt σ.n μ s.heap σ.n μ h' (ownOf env) → Frm C S env σ.n μ (upd ρ i (some v)) h' → Q () { s with heap := h', toks := t' }) :
    wpAny (model C.prog C.w) A (storeName env x u) Q E s :=
  storeVar p hx r (fun zz1 => .inl rfl) (fun zz1 c hc => .inr ⟨x, hc⟩) k
end

namespace Sx
@[reducible] noncomputable def seq (f g : FS) : FS := fun ρ σ P => f ρ σ fun fl ρ σ => match fl with | .next => g ρ σ P | fl => P fl ρ σ
@[reducible] noncomputable def nop : FS := fun ρ σ P => P .next ρ σ
@[reducible] noncomputable def assign (i : Nat) (e : FE) : FS := fun ρ σ P => e ρ σ fun v σ => P .next (upd ρ i (some v)) σ
@[reducible] noncomputable def ite (c : FB) (a b : FS) : FS := fun ρ σ P => c ρ σ fun t σ => (t = true → a ρ σ P) ∧ (t = false → b ρ σ P)
@[reducible] noncomputable def ret (e : FE) : FS := fun ρ σ P => e ρ σ fun v σ => P (.ret v) ρ σ
@[reducible] noncomputable def cont : FS := fun ρ σ P => P .cont ρ σ
@[reducible] noncomputable def expr (e : FE) : FS := fun ρ σ P => e ρ σ fun v σ => v = .none ∧ P .next ρ σ
end Sx

section
variable {C : Ctx} {S : Sc} {d : Nat}

theorem simNil : SimSs C S d [] Sx.nop := by
  constructor
  intro A env s μ ρ σ P Q E p f g
  exact wpAny_execs_nil (g .next .next ρ σ μ s.heap s.toks p.r (Nxt.refl ..) p.f .next f)

theorem simCons {st sts f g} (hf : SimS C S d st f) (hg : SimSs C S d sts g) : SimSs C S d (st :: sts) (Sx.seq f g) := by
  constructor
  intro A env s μ ρ σ P Q E p f g
  refine wpAny_execs_cons (wpAny_mono (hf.run p f) (fun ff s' h => ?_) fun zz1 zz2 e => e)
  obtain ⟨fl, ρ', σ', μ', h', t', rfl, p', x, r, q⟩ := h
  cases r with
  | next => exact hg.go A env _ μ' ρ' σ' P Q E p' q (g.after x)
  | brk => exact g _ _ ρ' σ' μ' h' t' p'.r x p'.f .brk q
  | cont => exact g _ _ ρ' σ' μ' h' t' p'.r x p'.f .cont q
  | ret v u hv => exact g _ _ ρ' σ' μ' h' t' p'.r x p'.f (.ret v u hv) q

theorem simOne {st f} (hf : SimS C S d st f) : SimSs C S d [st] f := by
  constructor
  intro A env s μ ρ σ P Q E p f g
  refine wpAny_execs_cons (wpAny_mono (hf.run p f) (fun ff s' h => ?_) fun zz1 zz2 e => e)
  obtain ⟨fl, ρ', σ', μ', h', t', rfl, p', x, r, q⟩ := h
  have z := g _ _ ρ' σ' μ' h' t' p'.r x p'.f r q
  cases r with
  | next => exact wpAny_execs_nil z
  | brk => exact z
  | cont => exact z
  | ret v u hv => exact z

theorem simPass {pos} : SimS C S d (.Pass pos) Sx.nop := by
  constructor
  intro A env s μ ρ σ P Q E p f g
  exact wpAny_Pass (g .next .next ρ σ μ s.heap s.toks p.r (Nxt.refl ..) p.f .next f)
theorem simContinue {pos} : SimS C S d (.Continue pos) Sx.cont := by
  constructor
  intro A env s μ ρ σ P Q E p f g
  exact wpAny_Continue (g .cont .cont ρ σ μ s.heap s.toks p.r (Nxt.refl ..) p.f .cont f)

theorem simReturn {e pos fe} (he : SimE C S d e fe) : SimS C S d (.Return (some e) pos) (Sx.ret fe) := by
  constructor
  intro A env s μ ρ σ P Q E p f g
  refine wpAny_Return_some (wpAny_mono (he.run p f) (fun u s' h => ?_) fun zz1 zz2 e => e)
  obtain ⟨v, σ', μ', h', t', rfl, p', x, r, q⟩ := h
  exact g _ _ ρ σ' μ' h' t' p'.r (x.toOwn _) p'.f (.ret v u r) q

theorem simReturn0 {pos} : SimS C S d (.Return none pos) (Sx.ret (Ex.const .none)) := by
  constructor
  intro A env s μ ρ σ P Q E p f g
  exact wpAny_Return_none (g _ _ ρ σ μ s.heap s.toks p.r (Nxt.refl ..) p.f (.ret .none .none .none) f)

theorem simIf {c b o pos fc fb fo} (hc : SimB C S d c fc) (hb : SimSs C S d b fb) (ho : SimSs C S d o fo) : SimS C S d (.If c b o pos) (Sx.ite fc fb fo) := by
  constructor
  intro A env s μ ρ σ P Q E p f g
  refine wpAny_If (wpAny_mono (hc.run p f) (fun t s' h => ?_) fun zz1 zz2 e => e)
  obtain ⟨σ', μ', h', t', rfl, p', x, q⟩ := h
  cases t with
  | true => exact hb.go A env _ μ' ρ σ' P Q E p' (q.1 rfl) (g.after (x.toOwn _))
  | false => exact ho.go A env _ μ' ρ σ' P Q E p' (q.2 rfl) (g.after (x.toOwn _))

theorem simAssign {x px value pos fe} {i : Nat} {b : Bool} (he : SimE C S d value fe) (hx : (x, i, b) ∈ S.vars)
    (hs : ∀ env, swapsWith value (some (.Name x px)) pos.line env = pure false := by intro zz1; rfl) : SimS C S d (.Assign [.Name x px] value pos) (Sx.assign i fe) := by
  constructor
  intro A env s μ ρ σ P Q E p f g
  refine wpAny_Assign_Name (wpAny_mono (he.run p f) (fun u s' h => ?_) fun zz1 zz2 e => e) (hs env)
  obtain ⟨v, σ', μ', h', t', rfl, p', y, r, q⟩ := h
  refine ownStore p' hx r fun h2 t2 R2 x2 F2 => ?_
  exact g .next .next _ σ' μ' h2 t2 R2 ((y.toOwn _).trans x2) F2 .next q

theorem simExpr {e pos fe} (he : SimE C S d e fe) (hs : ∀ env, swapsWith e none pos.line env = pure false := by intro zz1; rfl) : SimS C S d (.Expr e pos) (Sx.expr fe) := by
  constructor
  intro A env s μ ρ σ P Q E p f g
  have hi : interactive env = false := by unfold interactive; rw [p.e.scope, p.e.kind]; rfl
  refine wpAny_Expr (wpAny_mono (he.run p f) (fun u s' h => ?_) fun zz1 zz2 e => e) hi (hs env)
  obtain ⟨v, σ', μ', h', t', rfl, p', x, r, rfl, q⟩ := h
  cases r
  exact g _ _ ρ σ' μ' h' t' p'.r (x.toOwn _) p'.f .next q
end
end Mine
end

noncomputable section
open PySem PySem.W PyProof.Rows PySem.Calls
set_option Elab.async false
set_option maxRecDepth 100000
namespace Mine

section
variable {C : Ctx} {S : Sc} {d : Nat}

theorem SimEs.plain {es fs} (H : SimEs C S d es fs) (env : Env) (pos : Pos) : (backTo pos (starEach es env)).any (·.1) = false := by
  induction H with
  | nil => rfl
  | cons he _ hs ih =>
    rw [hs]
    show (false || (backTo pos (starEach _ env)).any (·.1)) = false
    rw [ih]; rfl

theorem SimEs.plain' {es fs} (H : SimEs C S d es fs) (env : Env) (pos : Pos) : (backTo pos (starEach es env)).all (fun x => !x.1) = true := by
  induction H with
  | nil => rfl
  | cons he _ hs ih =>
    rw [hs]
    show (true && (backTo pos (starEach _ env)).all (fun x => !x.1)) = true
    rw [ih]; rfl

/-- the arguments of a call -/
theorem SimEs.args {es fs} (H : SimEs C S d es fs) {A env s μ ρ σ P} {E : Value → Shared → Prop} {pos : Pos} {f : Value} (p : Pt C S d A env s μ ρ σ) (hf : Ex.evs fs ρ σ P) :
    wpAny (model C.prog C.w) A (evalArgs f true (backTo pos (starEach es env)) []) (fun a s' => ∃ vs us σ' μ' h' t', a = ⟨us, []⟩ ∧ s' = { s with heap := h', toks := t' } ∧ Pt C S d A env { s with heap := h', toks := t' } μ' ρ σ' ∧ Nxt σ.n μ s.heap σ'.n μ' h' NoOwn ∧
      VReps C.h0 σ'.n μ' h' vs us ∧ P vs σ') E s := by
  cases H with
  | nil => exact PySem.evalArgs_none ⟨[], [], σ, μ, s.heap, s.toks, rfl, rfl, p, Nxt.refl .., .nil, hf⟩
  | @cons e es f fs he hes hs =>
    have H' : SimEs C S d (e :: es) (f :: fs) := .cons he hes hs
    have hrun := H'.run (E := E) (pos := pos) p hf
    rw [hs env] at hrun ⊢
    refine evalArgs_plain (wpAny_mono hrun (fun us s' h => ?_) fun zz1 zz2 e => e)
    obtain ⟨vs, σ', μ', h', t', rfl, p', x, r, _, q⟩ := h
    exact ⟨vs, us, σ', μ', h', t', rfl, rfl, p', x, r, q⟩

/-- a global name's value, where a call asks it -/
theorem globCall {x : Str} {px pos : Pos} {es fs} {u : Value} {A : Around} {env : Env} {s : Shared} {μ ρ σ} {Q : Value → Shared → Prop} {E : Value → Shared → Prop} (p : Pt C S d A env s μ ρ σ)
    (hx : S.scope.names.lookup x = some .globalImplicit) (e : nsIn C.K mainGlobals x = some (some u)) (_H : SimEs C S d es fs)
    (h : wpAny (model C.prog C.w) A (callWith pos u [] (backTo pos (starEach es env)) []) Q E s) (hd : (x == ("__debug__" : Str)) = false := by decide) :
    wpAny (model C.prog C.w) A (eval (.Call (.Name x px) es [] pos) env) Q E s := by
  have hk : env.scope.kind = .function := p.e.scope ▸ p.e.kind
  have hl : env.kindOf x = some .globalImplicit := by unfold Env.kindOf; rw [p.e.scope]; exact hx
  exact wpAny_Call_Name_kw (Name_function_global hk hl (loadGlobal_global (env := env) (by rw [p.e.glob]; exact C.T.g.keeps p.r.base) (mg_of C.KX C.T.g e) h) hd)
theorem bootCall {x : Str} {px pos : Pos} {es fs} {u : Value} {A : Around} {env : Env} {s : Shared} {μ ρ σ} {Q : Value → Shared → Prop} {E : Value → Shared → Prop} (p : Pt C S d A env s μ ρ σ)
    (hx : S.scope.names.lookup x = some .globalImplicit) (e : nsIn C.K mainGlobals x = some none) (hb : bootBuiltins x = some u) (hn : x ≠ "__name__") (_H : SimEs C S d es fs)
    (h : wpAny (model C.prog C.w) A (callWith pos u [] (backTo pos (starEach es env)) []) Q E s) (hd : (x == ("__debug__" : Str)) = false := by decide) :
    wpAny (model C.prog C.w) A (eval (.Call (.Name x px) es [] pos) env) Q E s := by
  have hk : env.scope.kind = .function := p.e.scope ▸ p.e.kind
  have hl : env.kindOf x = some .globalImplicit := by unfold Env.kindOf; rw [p.e.scope]; exact hx
  exact wpAny_Call_Name_kw (Name_function_global hk hl (loadGlobal_builtin (env := env) (by rw [p.e.glob]; exact C.T.g.keeps p.r.base) (mg_none_of C.KX C.T.g e)
    (by rw [p.e.bi]; exact C.T.b.keeps p.r.base) ((C.T.builtins x hn).trans hb) h) hd)

/-- a def of the text, called by its name -/
theorem simCallFn {x : Str} {px pos : Pos} {es fs} {f : Addr} {oc od fd osl} {FC : Fs} (hx : S.scope.names.lookup x = some .globalImplicit) (e : nsIn C.K mainGlobals x = some (some (.ref f)))
    (hK : C.K.lookup f = some ⟨oc, od, .func fd, osl⟩) (H : SimEs C S d es fs) (hc : SimN C d (fun us => call (.ref f) us []) FC) (hd : (x == ("__debug__" : Str)) = false := by decide) :
    SimE C S d (.Call (.Name x px) es [] pos) (Ex.ops FC fs) := by
  constructor
  intro A env s μ ρ σ P Q E p hf g
  refine globCall p hx e H ?_ hd
  refine callWith_function (o := ⟨oc, od, .func fd, osl⟩) (fd := fd) (wpAny_mono (H.args p hf) (fun a s' h => ?_) fun zz1 zz2 e => e)
  obtain ⟨vs, us, σ', μ', h', t', rfl, rfl, p', y, r, q⟩ := h
  exact ⟨⟨p'.r.base _ _ (C.KX _ _ hK), rfl⟩, hc A _ μ' σ' vs us P Q E p.a p'.r r q (g.after y)⟩

/-- a built-in function, called by its name -/
theorem simCallB {x : Str} {px pos : Pos} {es fs} {id : String} {FC : Fs} (hx : S.scope.names.lookup x = some .globalImplicit) (e : nsIn C.K mainGlobals x = some none) (hb : bootBuiltins x = some (.builtin id)) (hn : x ≠ "__name__")
    (H : SimEs C S d es fs) (hc : SimN C d (fun us => call (.builtin id) us []) FC) (hd : (x == ("__debug__" : Str)) = false := by decide) :
    SimE C S d (.Call (.Name x px) es [] pos) (Ex.ops FC fs) := by
  constructor
  intro A env s μ ρ σ P Q E p hf g
  refine bootCall p hx e hb hn H ?_ hd
  refine callWith_builtin (H.plain env pos) (wpAny_mono (H.args p hf) (fun a s' h => ?_) fun zz1 zz2 e => e)
  obtain ⟨vs, us, σ', μ', h', t', rfl, rfl, p', y, r, q⟩ := h
  exact hc A _ μ' σ' vs us P Q E p.a p'.r r q (g.after y)
theorem simCallT {x : Str} {px pos : Pos} {es fs} {T : String} {FC : Fs} (hx : S.scope.names.lookup x = some .globalImplicit) (e : nsIn C.K mainGlobals x = some none) (hb : bootBuiltins x = some (.type T)) (hn : x ≠ "__name__")
    (H : SimEs C S d es fs) (hc : SimN C d (fun us => call (.type T) us []) FC) (hd : (x == ("__debug__" : Str)) = false := by decide) :
    SimE C S d (.Call (.Name x px) es [] pos) (Ex.ops FC fs) := by
  constructor
  intro A env s μ ρ σ P Q E p hf g
  refine bootCall p hx e hb hn H ?_ hd
  refine PySem.callWith_type (H.plain env pos) (wpAny_mono (H.args p hf) (fun a s' h => ?_) fun zz1 zz2 e => e)
  obtain ⟨vs, us, σ', μ', h', t', rfl, rfl, p', y, r, q⟩ := h
  exact hc A _ μ' σ' vs us P Q E p.a p'.r r q (g.after y)
end

/-! ### methods of built-in kinds -/
section
variable {C : Ctx} {S : Sc} {d : Nat}

theorem simMethB {o : Expr} {name : Str} {apos pos : Pos} {es fs} {T id : String} {fo : FE} {G : Fs} (ho : SimE C S d o fo) (H : SimEs C S d es fs)
    (kind : AV → St → Prop) (hkind : ∀ μ σ (s : Shared) v u, Rel C μ σ s.heap → VRep C.h0 σ.n μ s.heap v u → kind v σ → s.TypeIs u T ∧ ∀ a, u = .ref a → ∃ ob, s.heap.get? a = some ob ∧ ob.dict = none)
    (pa : PlainAttrs T) (slot : Slot T name id) (hty : typeOf (.builtin id) = pure (.type "method_descriptor"))
    (hc : SimN C d (fun us => call (.builtin id) us []) G)
    (hbase : ∀ env, attributeBase o name env (eval o env) = eval o env := by intro zz1; rfl) (hline : (apos.endLine == pos.line) = true := by decide) (hn : es.length < 20 := by decide) :
    SimE C S d (.Call (.Attribute o name apos) es [] pos) (fun ρ σ P => fo ρ σ fun v σ => kind v σ ∧ Ex.evs fs ρ σ fun vs σ => G (v :: vs) σ P) := by
  constructor
  intro A env s μ ρ σ P Q E p hf g
  refine wpAny_Call_method (hbase env) ?_ hline pa slot hty (wpAny_mono (ho.run p hf) (fun u s' h => ?_) fun zz1 zz2 e => e)
  · rw [H.plain']
    show (true && true && decide (es.length + 0 + 0 < 30)) = true
    simp; (first | lia | omega)
  · obtain ⟨v, σ', μ', h', t', rfl, p', x, r, hk, q⟩ := h
    obtain ⟨k1, k2⟩ := hkind μ' σ' _ v u p'.r r hk
    refine ⟨k1, k2, ?_⟩
    refine callWith_builtin (H.plain env pos) (wpAny_mono (H.args p' q) (fun a s' h => ?_) fun zz1 zz2 e => e)
    obtain ⟨vs, us, σ2, μ2, h2, t2, rfl, rfl, p2, y, r2, q⟩ := h
    exact hc A _ μ2 σ2 (v :: vs) (u :: us) P Q E p.a p2.r (.cons _ _ _ _ (r.nxt y) r2) q (g.after (x.trans y))

noncomputable def isList (v : AV) (σ : St) : Prop := ∃ l vs, v = .ref l ∧ σ.obj l = some (.list vs)
noncomputable def isDictS (v : AV) (σ : St) : Prop := ∃ l vs, v = .ref l ∧ σ.obj l = some (.dS vs)
noncomputable def isDictI (v : AV) (σ : St) : Prop := ∃ l vs, v = .ref l ∧ σ.obj l = some (.dI vs)
noncomputable def isDictT (v : AV) (σ : St) : Prop := ∃ l vs, v = .ref l ∧ σ.obj l = some (.dT vs)

theorem kind_list (μ σ) (s : Shared) (v u) (R : Rel C μ σ s.heap) (r : VRep C.h0 σ.n μ s.heap v u) (k : isList v σ) : s.TypeIs u "list" ∧ ∀ a, u = .ref a → ∃ ob, s.heap.get? a = some ob ∧ ob.dict = none := by
  obtain ⟨l, vs, rfl, e⟩ := k
  cases r
  obtain ⟨items, k, e, _⟩ := R.rep e
  exact ⟨⟨_, e, rfl⟩, fun a h => by cases h; exact ⟨_, e, rfl⟩⟩
theorem kind_dictS (μ σ) (s : Shared) (v u) (R : Rel C μ σ s.heap) (r : VRep C.h0 σ.n μ s.heap v u) (k : isDictS v σ) : s.TypeIs u "dict" ∧ ∀ a, u = .ref a → ∃ ob, s.heap.get? a = some ob ∧ ob.dict = none := by
  obtain ⟨l, vs, rfl, e⟩ := k
  cases r
  obtain ⟨kus, ⟨o, es, ep, e, hx, _⟩, _⟩ := R.rep e
  exact ⟨⟨_, e, hx.1⟩, fun a h => by cases h; exact ⟨_, e, hx.2.1⟩⟩
theorem kind_dictI (μ σ) (s : Shared) (v u) (R : Rel C μ σ s.heap) (r : VRep C.h0 σ.n μ s.heap v u) (k : isDictI v σ) : s.TypeIs u "dict" ∧ ∀ a, u = .ref a → ∃ ob, s.heap.get? a = some ob ∧ ob.dict = none := by
  obtain ⟨l, vs, rfl, e⟩ := k
  cases r
  obtain ⟨kus, ⟨o, es, ep, e, hx, _⟩, _⟩ := R.rep e
  exact ⟨⟨_, e, hx.1⟩, fun a h => by cases h; exact ⟨_, e, hx.2.1⟩⟩
theorem kind_dictT (μ σ) (s : Shared) (v u) (R : Rel C μ σ s.heap) (r : VRep C.h0 σ.n μ s.heap v u) (k : isDictT v σ) : s.TypeIs u "dict" ∧ ∀ a, u = .ref a → ∃ ob, s.heap.get? a = some ob ∧ ob.dict = none := by
  obtain ⟨l, vs, rfl, e⟩ := k
  cases r
  obtain ⟨xs, ⟨o, es, ep, e, hx, _⟩, _⟩ := R.rep e
  exact ⟨⟨_, e, hx.1⟩, fun a h => by cases h; exact ⟨_, e, hx.2.1⟩⟩

/-! lists: append, extend, pop -/
noncomputable def gAppend : Fs := fun vs σ P => ∃ l xs v, vs = [.ref l, v] ∧ σ.obj l = some (.list xs) ∧ xs.length ≤ 1000000 ∧ P .none (σ.set l (.list (xs ++ [v])))
noncomputable def gExtendT : Fs := fun vs σ P => ∃ l xs ys, vs = [.ref l, .tup ys] ∧ σ.obj l = some (.list xs) ∧ xs.length + ys.length ≤ 1000000 ∧ P .none (σ.set l (.list (xs ++ ys)))
noncomputable def gPop : Fs := fun vs σ P => ∃ l xs v, vs = [.ref l] ∧ σ.obj l = some (.list (xs ++ [v])) ∧ xs.length ≤ 900000 ∧ P v (σ.set l (.list xs))

theorem Rel.listSet {μ σ} {h : Heap} (R : Rel C μ σ h) {l : Nat} {xs : List AV} {items : Array Value} {k : Nat} {f : Array Value → Array Value} {ys : List AV} (e : σ.obj l = some (.list xs)) (he : IsL h (μ l) items k)
    (r : VReps C.h0 σ.n μ h ys (f items).toList) : Rel C μ (σ.set l (.list ys)) (h.update (μ l) (Obj.mapSeq f)) := by
  have hl := R.lt l _ e
  have hs := Heap.SameBut.update h (μ l) (Obj.mapSeq f)
  exact R.set hl hs ⟨f items, _, IsL.update he f, r.nxt (Nxt.set NoOwn R hl hs)⟩

theorem simN_append : SimN C d (fun us => call (.builtin "list.append") us []) gAppend := by
  intro A s μ σ as us P Q E a R r hg g
  obtain ⟨l, xs, v, rfl, e, hs, q⟩ := hg
  cases r with | cons _ _ u1 _ r1 rr =>
  cases rr with | cons _ _ u2 _ r2 rr =>
  cases rr
  cases r1
  obtain ⟨items, k, he, hr⟩ := R.rep e
  have hlen := hr.length
  refine call_meets F.slot_list_append ⟨_, he, rfl⟩ F.entry_list_append (F.args_list_append_2 _ _) (list_append (μ l) items k u2 (le_line (by simp at hlen; (first | lia | omega)))) ⟨he, ?_⟩
  exact g .none .none _ μ _ _ (R.listSet (f := fun x => x.push u2) e he (by simpa using hr.append (.cons _ _ _ _ r2 .nil))) (Nxt.set NoOwn R (R.lt l _ e) (Heap.SameBut.update ..)) .none q

theorem simN_extendT : SimN C d (fun us => call (.builtin "list.extend") us []) gExtendT := by
  intro A s μ σ as us P Q E a R r hg g
  obtain ⟨l, xs, ys, rfl, e, hs, q⟩ := hg
  cases r with | cons _ _ u1 _ r1 rr =>
  cases rr with | cons _ _ u2 _ r2 rr =>
  cases rr
  cases r1
  cases r2 with | tup _ b items2 k2 he2 hr2 =>
  obtain ⟨items, k, he, hr⟩ := R.rep e
  have hlen := hr.length
  have hlen2 := hr2.length
  simp at hlen hlen2
  have hz : items.size ≤ sizeLine := le_line (by (first | lia | omega))
  have hz1 : items.size + items2.size ≤ sizeLine := le_line (by (first | lia | omega))
  have hz2 : items.size + items2.size ≤ sizeLine + 1 := Nat.le_succ_of_le hz1
  have hd : ¬(!items.isEmpty && Builtin.List.listTooLong (items.size + items2.size)) = true := by
    have : Builtin.List.listTooLong (items.size + items2.size) = false := by unfold Builtin.List.listTooLong; exact decide_eq_false (by (first | lia | omega))
    rw [this]; simp
  refine call_meets F.slot_list_extend ⟨_, he, rfl⟩ F.entry_list_extend (F.args_list_extend_2 _ _) (AutoSeq1.list_extend_list_tuple_0 (μ l) items k b items2 k2 hd hz hz2) ⟨he, he2, ?_⟩
  exact g .none .none _ μ _ _ (R.listSet (f := fun x => x ++ items2) e he (by simpa using hr.append hr2)) (Nxt.set NoOwn R (R.lt l _ e) (Heap.SameBut.update ..)) .none q

theorem simN_pop : SimN C d (fun us => call (.builtin "list.pop") us []) gPop := by
  intro A s μ σ as us P Q E a R r hg g
  obtain ⟨l, xs, v, rfl, e, hs, q⟩ := hg
  cases r with | cons _ _ u1 _ r1 rr =>
  cases rr
  cases r1
  obtain ⟨items, k, he, hr⟩ := R.rep e
  have hlen := hr.length
  simp at hlen
  obtain ⟨u, hu, ru⟩ := hr.get (i := xs.length) (v := v) (by simp)
  have hu' : items[items.size - 1]? = some u := by rw [hlen]; simpa using hu
  refine call_meets F.slot_list_pop ⟨_, he, rfl⟩ F.entry_list_pop (F.args_list_pop_1 _) (MeetsSeq.list_pop_last (μ l) items k u hu' (le_line (by (first | lia | omega)))) ⟨he, ?_⟩
  have hl := R.lt l _ e
  have X := Nxt.set NoOwn R hl (Heap.SameBut.update s.heap (μ l) (Obj.mapSeq fun xs => xs.eraseIdxIfInBounds (items.size - 1)))
  refine g v u _ μ _ _ (R.listSet (f := fun xs => xs.eraseIdxIfInBounds (items.size - 1)) e he ?_) X (ru.nxt X) q
  have h2 := hr.take xs.length
  have e2 : (items.eraseIdxIfInBounds (items.size - 1)).toList = items.toList.take xs.length := by
    have hz : items.size - 1 < items.size := by (first | lia | omega)
    rw [Array.eraseIdxIfInBounds, dif_pos hz, Array.toList_eraseIdx]
    have : items.size - 1 = xs.length := by (first | lia | omega)
    rw [this, List.eraseIdx_eq_take_drop_succ, List.drop_eq_nil_of_le (by simp; (first | lia | omega)), List.append_nil]
  show VReps _ _ _ _ xs (items.eraseIdxIfInBounds (items.size - 1)).toList
  rw [e2]
  simpa using h2
end
end Mine
end

noncomputable section
open PySem PySem.W PyProof.Rows PySem.Calls
set_option Elab.async false
set_option maxRecDepth 100000
namespace Mine

section
variable {κ : Type} [DecidableEq κ] {α : Type}
noncomputable def look (kvs : List (κ × α)) (k : κ) : Option α := (kvs.find? fun kv => kv.1 = k).map (·.2)
noncomputable def put (kvs : List (κ × α)) (k : κ) (v : α) : List (κ × α) :=
  if kvs.any (fun kv => kv.1 = k) then kvs.map (fun kv => if kv.1 = k then (kv.1, v) else kv) else kvs ++ [(k, v)]

theorem PReps.keys {h0 n μ h} {a : List (κ × AV)} {b : List (κ × Value)} (r : PReps h0 n μ h a b) : b.map (·.1) = a.map (·.1) := by
  induction r with
  | nil => rfl
  | cons k v r u r' _ _ ih => simp [ih]
theorem PReps.length {h0 n μ h} {a : List (κ × AV)} {b : List (κ × Value)} (r : PReps h0 n μ h a b) : b.length = a.length := by
  have := congrArg List.length r.keys
  simpa using this

theorem PReps.look {h0 n μ h} {a : List (κ × AV)} {b : List (κ × Value)} (r : PReps h0 n μ h a b) (k : κ) :
    (look a k = none ∧ valueAt b k = none) ∨ ∃ v u, look a k = some v ∧ valueAt b k = some u ∧ VRep h0 n μ h v u := by
  induction r with
  | nil => exact .inl ⟨rfl, rfl⟩
  | cons k' v r u r' h1 _ ih =>
    by_cases q : k' = k
    · exact .inr ⟨v, u, by simp [Mine.look, q], by simp [valueAt, q], h1⟩
    · rcases ih with ⟨x, y⟩ | ⟨v', u', x, y, z⟩
      · exact .inl ⟨by simpa [Mine.look, q] using x, by simpa [valueAt, q] using y⟩
      · exact .inr ⟨v', u', by simpa [Mine.look, q] using x, by simpa [valueAt, q] using y, z⟩

theorem PReps.some {h0 n μ h} {a : List (κ × AV)} {b : List (κ × Value)} (r : PReps h0 n μ h a b) {k : κ} {v : AV} (e : Mine.look a k = some v) : ∃ u, valueAt b k = some u ∧ VRep h0 n μ h v u := by
  rcases r.look k with ⟨x, y⟩ | ⟨v', u', x, y, z⟩
  · rw [x] at e; cases e
  · rw [x] at e; cases e; exact ⟨u', y, z⟩
theorem PReps.none {h0 n μ h} {a : List (κ × AV)} {b : List (κ × Value)} (r : PReps h0 n μ h a b) {k : κ} (e : Mine.look a k = none) : valueAt b k = none := by
  rcases r.look k with ⟨x, y⟩ | ⟨v', u', x, y, z⟩
  · exact y
  · rw [x] at e; cases e

theorem PReps.append {h0 n μ h} {a a' : List (κ × AV)} {b b' : List (κ × Value)} (r : PReps h0 n μ h a b) (r' : PReps h0 n μ h a' b') : PReps h0 n μ h (a ++ a') (b ++ b') := by
  induction r with
  | nil => exact r'
  | cons k v r u r' h1 _ ih => exact .cons k v _ u _ h1 ih

theorem PReps.put {h0 n μ h} {a : List (κ × AV)} {b : List (κ × Value)} (r : PReps h0 n μ h a b) (k : κ) {v : AV} {u : Value} (hv : VRep h0 n μ h v u) : PReps h0 n μ h (put a k v) (stored b k u) := by
  have hany : b.any (fun kv => decide (kv.1 = k)) = a.any (fun kv => decide (kv.1 = k)) := by
    have := r.keys
    clear hv
    induction r with
    | nil => rfl
    | cons k' v r u r' h1 hr ih => simp [ih hr.keys]
  unfold Mine.put stored
  rw [hany]
  split
  · rename_i hh
    clear hh hany
    induction r with
    | nil => exact .nil
    | cons k' v' r u' r' h1 hr ih =>
      simp only [List.map_cons]
      by_cases q : k' = k
      · simp only [q, if_true]; exact .cons _ _ _ _ _ hv ih
      · simp only [q, if_false]; exact .cons _ _ _ _ _ h1 ih
  · exact r.append (.cons _ _ _ _ _ hv .nil)
end

section
variable {prog : Program} {w : World}
theorem dictOf_ns {h : Heap} {a : Addr} {kus : List (Str × Value)} (x : h.DictOf (strKind prog w) a kus) : h.Ns a (valueAt kus) := by
  have hm := x.mapOf
  obtain ⟨o, es, ep, e, _, hd, hk, hf⟩ := hm
  refine ⟨o, es, ep, e, hd, fun en he => ?_, fun name => ?_⟩
  · obtain ⟨k, hk', _⟩ := hk en he
    obtain ⟨t, ht⟩ := Value.isStrOf_shape hk'
    exact ⟨k, t, ht⟩
  · rw [← hf name]
    unfold nsFind findBy
    congr 1
    have q : (fun d : DictEntry => d.key.isStr name) = fun d => (strKind prog w).is name d.key := funext fun d => isStr_of name d.key
    rw [q]

theorem ns_lookIn {h : Heap} {a : Addr} {m} (x : h.Ns a m) : ∃ o, h.get? a = some o ∧ ∀ name, lookIn name o = some (m name) := by
  obtain ⟨o, es, ep, e, hd, hk, hm⟩ := x
  refine ⟨o, e, fun name => ?_⟩
  unfold lookIn
  rw [hd]
  dsimp only
  have hany : es.toList.any (·.refKey) = false := by
    rw [List.any_eq_false]; intro e he; obtain ⟨n, t, h⟩ := hk e (by simpa using he); simp [DictEntry.refKey, h]
  have hf := hm name
  unfold nsFind findBy at hf
  rw [← Array.find?_toList] at hf
  cases hx : es.toList.find? (fun e => e.key.isStr name) with
  | none => rw [hx] at hf; simp only [hany]; rw [← hf]; rfl
  | some en => rw [hx] at hf; rw [← hf]; rfl

theorem nsSet_pairs {A : Around} {E : Value → Shared → Prop} {s : Shared} {d : Addr} {kus : List (Str × Value)} {name : Str} {v : Value} {Q : Unit → Shared → Prop} (hm : s.heap.DictOf (strKind prog w) d kus)
    (hQ : ∀ h', h'.DictOf (strKind prog w) d (stored kus name v) → Heap.SameBut d s.heap h' → Q () { s with heap := h', toks := s.toks + 1 }) :
    wpAny (model prog w) A (nsSet d name v) Q E s := by
  obtain ⟨o, es, ep, ho, hc, hd, hk, hp, hn⟩ := hm
  unfold nsSet
  refine wpAny_bind (wpAny_bind (wpAny_askSetting (wpAny_pure (wpAny_bind (wpAny_mkText (wpAny_bind (wpAny_loadPart ho ?_)))))))
  rw [hd]
  dsimp only
  have hany : es.any (·.refKey) = false := by
    rw [Array.any_eq_false']; intro e he
    obtain ⟨k, hk', _⟩ := hk e he
    obtain ⟨t, ht⟩ := Value.isStrOf_shape hk'
    simp [DictEntry.refKey, ht]
  rw [aRefKeyMayBeTheName_at, hany, Bool.and_false]
  simp only [Bool.false_eq_true, if_false]
  refine wpAny_updatePart ho ?_
  have q : (fun d : DictEntry => d.key.isStr name) = fun d => (strKind prog w).is name d.key := funext fun d => isStr_of name d.key
  have hidx : (es.findIdx? fun e => (strKind prog w).is name e.key) = kus.findIdx? fun kv => decide (kv.1 = name) := by
    rw [← hp.findIdx name]; obtain ⟨l⟩ := es; simp
  obtain ⟨oc, od, dt, sl⟩ := o
  dsimp only at hd
  subst hd
  obtain ⟨rfl, rfl, rfl⟩ : oc = .type "dict" ∧ od = none ∧ sl = #[] := hc
  have hes : ∀ (es' : Array DictEntry) (n' : Nat) (h : Int), Obj.putName name h (.str name s.toks) v ⟨.type "dict", none, .dict es ep, #[]⟩ = ⟨.type "dict", none, .dict es' n', #[]⟩ → h = hashStr w name →
      KeysOf (strKind prog w) es' → Pairs (strKind prog w) es'.toList (stored kus name v) → ((stored kus name v).map (·.1)).Nodup →
      (s.heap.update d (Obj.putName name h (.str name s.toks) v)).DictOf (strKind prog w) d (stored kus name v) := by
    intro es' n' h e _ k p n
    exact ⟨_, es', n', by rw [Heap.get?_update_self _ ho (by rw [e]; rfl), e], ⟨rfl, rfl, rfl⟩, rfl, k, p, n⟩
  refine hQ _ ?_ (Heap.SameBut.update ..)
  cases hi : es.findIdx? (·.key.isStr name) with
  | some i =>
    have hi' := hi
    rw [q] at hi'
    refine hes _ ep _ (by rw [Obj.putName_eq]; simp only [Obj.putNameByArray, hi]) rfl (hk.modify i v) ?_ ?_
    · rw [stored, if_pos (any_of_findIdx_some (hidx ▸ hi'))]
      have hl : (es.toList.findIdx? fun e => (strKind prog w).is name e.key) = some i := by rw [← hi']; obtain ⟨l⟩ := es; simp
      have := hp.modify hn hl v
      obtain ⟨l⟩ := es
      simpa using this
    · rw [stored, if_pos (any_of_findIdx_some (hidx ▸ hi')), keys_map_store]; exact hn
  | none =>
    have hi' := hi
    rw [q] at hi'
    have hnot : name ∉ kus.map (·.1) := not_mem_of_findIdx_none (hidx ▸ hi')
    have hany2 : ¬ (kus.any fun kv => decide (kv.1 = name)) = true := by
      rw [List.any_eq_true]; rintro ⟨kv, hkv, he⟩
      exact hnot (List.mem_map.mpr ⟨kv, hkv, of_decide_eq_true he⟩)
    refine hes (es.push ⟨hashStr w name, .str name s.toks, v⟩) (ep + 1) _ (by rw [Obj.putName_eq]; simp only [Obj.putNameByArray, hi]; rfl) rfl (hk.push (strKind_is prog w name s.toks) v) ?_ ?_
    · rw [stored, if_neg hany2]
      have := hp.append (strKind_is prog w name s.toks) (hashStr w name) v
      obtain ⟨l⟩ := es
      simpa using this
    · rw [stored, if_neg hany2, List.map_append, List.nodup_append]
      refine ⟨hn, by simp, ?_⟩
      intro a ha b hb
      simp only [List.map_cons, List.map_nil, List.mem_singleton] at hb
      subst hb
      exact fun e => hnot (e ▸ ha)
end
end Mine
end

noncomputable section
open PySem PySem.W PyProof.Rows PySem.Calls
set_option Elab.async false
set_option maxRecDepth 100000
namespace Mine

/-- a code that answers (a def's call) -/
noncomputable def CodeN (C : Ctx) (d : Nat) (f : Value) (G : Fs) : Prop :=
  ∀ A s μ σ as us P (R : Result → Shared → Prop), AOk d A → Rel C μ σ s.heap → VReps C.h0 σ.n μ s.heap as us → G as σ P →
    (∀ v u σ' μ' h' t', Rel C μ' σ' h' → Nxt σ.n μ s.heap σ'.n μ' h' NoOwn → VRep C.h0 σ'.n μ' h' v u → P v σ' → R (.ok (.ret u)) { s with heap := h', toks := t' }) →
    codeAny (model C.prog C.w) A (.call f ⟨us, []⟩) R s

theorem CodeN.simN {C d f G} (H : CodeN C d f G) : SimN C d (fun us => call f us []) G :=
  fun A s μ σ as us P Q E a R r g k => wpAny_call (H A s μ σ as us P _ a R r g k)

/-- another spec: whatever gives the def's own -/
theorem CodeN.weaken {C d f} {G G' : Fs} (H : CodeN C d f G) (h : ∀ vs σ P, G' vs σ P → G vs σ P) : CodeN C d f G' :=
  fun A s μ σ as us P R a Rr r g k => H A s μ σ as us P R a Rr r (h _ _ _ g) k

theorem AOk.deeper {d A} (x : AOk (d + 1) A) (env : Env) : AOk d (A.deeper env) :=
  ⟨x.hd, by have := x.dep; show A.depth + 1 + d < _; (first | lia | omega), by have := x.un; show A.units + 3 + 20 * d + 80 < _; (first | lia | omega)⟩

section
variable {kindOf : Str → Option NameKind}
theorem bindL_eq {x : Str} (hx : kindOf x = some .local) : ∀ {names : List Str} {us : List Value} {m : Str → Option Value}, names.Nodup →
    bindL kindOf (names.zip us) m x = ((names.zip us).lookup x).or (m x)
  | [], _, _, _ => by simp [bindL]
  | _ :: _, [], _, _ => by simp [bindL]
  | n :: ns, u :: us, m, hn => by
    rw [List.zip_cons_cons, bindL, bindL_eq hx (List.nodup_cons.mp hn).2, List.lookup_cons]
    by_cases q : x = n
    · subst q
      have : (ns.zip us).lookup x = none := by
        rw [List.lookup_eq_none_iff]
        intro p hp
        simp only [bne_iff_ne, ne_eq, beq_eq_false_iff_ne]
        intro e
        exact (List.nodup_cons.mp hn).1 (e ▸ (List.of_mem_zip (a := p.1) (b := p.2) hp).1)
      simp [this, hx]
    · have qb : (x == n) = false := beq_eq_false_iff_ne.mpr q
      simp only [qb]
      by_cases hk : kindOf n = some .local
      · simp [hk, q]
      · simp [hk]
theorem bindC_eq {x : Str} (hx : kindOf x ≠ some .local) : ∀ {names : List Str} {us : List Value} {m : Str → Option Value}, names.Nodup →
    bindC kindOf (names.zip us) m x = ((names.zip us).lookup x).or (m x)
  | [], _, _, _ => by simp [bindC]
  | _ :: _, [], _, _ => by simp [bindC]
  | n :: ns, u :: us, m, hn => by
    rw [List.zip_cons_cons, bindC, bindC_eq hx (List.nodup_cons.mp hn).2, List.lookup_cons]
    by_cases q : x = n
    · subst q
      have : (ns.zip us).lookup x = none := by
        rw [List.lookup_eq_none_iff]
        intro p hp
        simp only [bne_iff_ne, ne_eq, beq_eq_false_iff_ne]
        intro e
        exact (List.nodup_cons.mp hn).1 (e ▸ (List.of_mem_zip (a := p.1) (b := p.2) hp).1)
      simp [this, hx]
    · have qb : (x == n) = false := beq_eq_false_iff_ne.mpr q
      simp only [qb]
      by_cases hk : kindOf n = some .local
      · simp [hk]
      · simp [hk, q]
theorem zip_lookup {x : Str} {u : Value} : ∀ {names : List Str} {us : List Value} {i : Nat}, names.Nodup → names[i]? = some x → us[i]? = some u → (names.zip us).lookup x = some u
  | [], _, i, _, h, _ => by simp at h
  | _ :: _, [], i, _, _, h => by simp at h
  | n :: ns, v :: us, 0, _, h, h' => by simp at h h'; subst h h'; simp
  | n :: ns, v :: us, i + 1, hn, h, h' => by
    simp at h h'
    have q : x ≠ n := fun e => (List.nodup_cons.mp hn).1 (e ▸ List.mem_of_getElem? h)
    have qb : (x == n) = false := beq_eq_false_iff_ne.mpr q
    simp only [List.zip_cons_cons, List.lookup_cons, qb]
    exact zip_lookup (List.nodup_cons.mp hn).2 h h'
end

structure Sc.Ok (S : Sc) : Prop where
  kind : S.scope.kind = .function
  kinds : ∀ x i b, (x, i, b) ∈ S.vars → S.scope.names.lookup x = some (if b then .cell else .local)
  uniq : ∀ x i b y j c, (x, i, b) ∈ S.vars → (y, j, c) ∈ S.vars → (x = y ↔ i = j)

noncomputable def Sc.okB (S : Sc) : Bool := S.scope.kind == .function && S.vars.all (fun x => S.scope.names.lookup x.1 == some (if x.2.2 then .cell else .local)) &&
  S.vars.all (fun x => S.vars.all fun y => (x.1 == y.1) == (x.2.1 == y.2.1))
theorem Sc.ok_of {S : Sc} (h : S.okB = true) : S.Ok := by
  unfold Sc.okB at h
  simp only [Bool.and_eq_true, List.all_eq_true, beq_iff_eq] at h
  refine ⟨h.1.1, fun x i b hm => h.1.2 _ hm, fun x i b y j c h1 h2 => ?_⟩
  have := h.2 _ h1 _ h2
  dsimp only at this
  constructor
  · rintro rfl
    simpa using this.symm
  · rintro rfl
    simpa using this

/-- what a def's text is, as the machine holds it -/
structure DefOk (C : Ctx) (f : Addr) (fd : FuncData) (body : List Stmt) (S : Sc) (names : List Str) : Prop where
  at_ : ∃ oc od osl, C.K.lookup f = some ⟨oc, od, .func fd, osl⟩
  body : fd.body = .stmts body
  clo : fd.closure = []
  glob : fd.globals = mainGlobals
  bi : fd.builtins = builtinsNs
  code : codeIn C.K fd.code fd.qualname = true
  co : fd.scope.isCoroutine = false
  gen : fd.scope.isGenerator = false
  scope : S.scope = fd.scope
  ok : S.Ok
  nodup : names.Nodup
  kindB : (names.all fun y => fd.scope.names.lookup y == some .local || fd.scope.names.lookup y == some .cell) = true
  params : ∀ x i b, (x, i, b) ∈ S.vars → i < names.length → names[i]? = some x
  bind : ∀ s us, us.length = names.length → (∀ b o, C.h0.get? b = some o → s.heap.get? b = some o) → BindsTo s fd ⟨us, []⟩ (names.zip us)
  cellsOk : ∀ x i, (x, i, true) ∈ S.vars → ∀ n, ((cellsFrom n fd.scope.names []).lookup x).isSome = true

noncomputable def callRho (vs : List AV) : Rho := fun i => vs[i]?
noncomputable def Fl.val : Fl → AV
  | .ret v => v
  | _ => .none

theorem codeDef {C : Ctx} {f : Addr} {fd : FuncData} {body : List Stmt} {S : Sc} {names : List Str} {d : Nat} {F : FS} (D : DefOk C f fd body S names) (hF : SimSs C S d body F) :
    CodeN C (d + 1) (.ref f) (fun vs σ P => vs.length = names.length ∧ F (callRho vs) σ (fun fl zz1 σ => P fl.val σ)) := by
  intro A s μ σ as us P R a Rr r hg k
  obtain ⟨hlen, hf⟩ := hg
  obtain ⟨oc, od, osl, hK⟩ := D.at_
  have hul : us.length = names.length := r.length.trans hlen
  have keep := Rr.base
  have hkd : fd.scope.kind = .function := D.scope ▸ D.ok.kind
  refine codeAny_call_function (o := ⟨oc, od, .func fd, osl⟩) (by have := a.dep; (first | lia | omega)) (keep _ _ (C.KX _ _ hK)) rfl D.co D.gen D.body (codeRec_of (C.KX.keeps keep) D.code) ((D.bind s us hul keep) _ _ _ _ ?_)
  rw [D.clo]
  refine wpAny_newFunctionEnv_cells hkd ?_ fun env he s' x => ?_
  · intro y hy
    have hy' := List.all_eq_true.mp D.kindB y.1 (List.of_mem_zip (a := y.1) (b := y.2) hy).1
    rcases Bool.or_eq_true_iff.mp hy' with q | q
    · exact .inl (by simpa using q)
    · have q' : fd.scope.names.lookup y.1 = some .cell := by simpa using q
      exact .inr ⟨q', cellsFrom_some _ _ _ (.inl q')⟩
  · obtain ⟨h', t', rfl, hk'⟩ := x.done
    have hsz : s.heap.objs.size ≤ h'.objs.size := Nat.le_trans x.toInCall.fresh (Nat.le_of_lt x.toInCall.ns.lt)
    have hes : env.scope = fd.scope := by subst he; rfl
    have heg : env.globals = mainGlobals := by subst he; exact D.glob
    have heb : env.builtins = builtinsNs := by subst he; exact D.bi
    have hel : env.locals = s.heap.objs.size := by subst he; rfl
    have hko : ∀ y, env.kindOf y = fd.scope.names.lookup y := by subst he; intro y; rfl
    have hec : env.cells = cellsFrom (s.heap.objs.size + 1) fd.scope.names [] := by subst he; rfl
    refine ⟨(C.T.nolimit.keeps keep).keeps hk', codeAny_func ?_⟩
    have R' : Rel C μ σ h' := Rr.grow hsz hk'
    have N' : Nxt σ.n μ s.heap σ.n μ h' NoOwn := Nxt.grow NoOwn hsz hk' σ.n μ
    have r' := r.nxt N'
    have old : ∀ l, l < σ.n → μ l < s.heap.objs.size := fun l hl => Rr.mulive hl
    have labove : ∀ y c, env.cells.lookup y = some c → env.locals < c := fun y c hc => x.above y c (mem_of_lookup hc)
    have FF : Frm C S env σ.n μ (callRho as) h' := by
      refine ⟨⟨_, x.toInCall.ns, fun y i hy v e => ?_⟩, fun y i hy => ?_, fun l hl => ?_, fun y c hc l hl => ?_, fun y c hc => ?_, fun y z c h1 h2 => ?_, ?_, fun y c hc => ?_, fun y c hc => ⟨_, x.cell y c hc⟩⟩
      · have hi : i < names.length := by
          have := (List.getElem?_eq_some_iff.mp (e : as[i]? = some v)).1; (first | lia | omega)
        have hnm := D.params y i false hy hi
        obtain ⟨u, hu, ru⟩ := r'.get (e : as[i]? = some v)
        have hkl : env.kindOf y = some .local := by rw [hko, ← D.scope]; exact D.ok.kinds y i false hy
        exact ⟨u, by rw [bindL_eq hkl D.nodup, zip_lookup D.nodup hnm hu]; rfl, ru⟩
      · have hkc : env.kindOf y = some .cell := by rw [hko, ← D.scope]; exact D.ok.kinds y i true hy
        obtain ⟨c, hc⟩ := Option.isSome_iff_exists.mp (D.cellsOk y i hy (s.heap.objs.size + 1))
        have hc' : env.cells.lookup y = some c := hec ▸ hc
        refine ⟨c, _, hc', x.cell y c hc', fun v e => ?_⟩
        have hi : i < names.length := by
          have := (List.getElem?_eq_some_iff.mp (e : as[i]? = some v)).1; (first | lia | omega)
        have hnm := D.params y i true hy hi
        obtain ⟨u, hu, ru⟩ := r'.get (e : as[i]? = some v)
        exact ⟨u, by rw [bindC_eq (by rw [hkc]; decide) D.nodup, zip_lookup D.nodup hnm hu]; rfl, ru⟩
      · rw [hel]; exact Nat.ne_of_lt (old l hl)
      · have := labove y c hc; rw [hel] at this; exact Nat.ne_of_lt (Nat.lt_trans (old l hl) this)
      · exact Nat.ne_of_gt (labove y c hc)
      · exact name_of_addr x.apart (mem_of_lookup h1) (mem_of_lookup h2)
      · rw [hel]; exact Rr.size
      · have := labove y c hc; rw [hel] at this; exact Nat.le_trans Rr.size (Nat.le_of_lt this)
    have EO : EnvOk S env := ⟨hes.trans D.scope.symm, D.ok.kind, heg, heb, D.ok.kinds, D.ok.uniq⟩
    have fin : ∀ fl ff ρ' σ' μ' h2 t2, Rel C μ' σ' h2 → Nxt σ.n μ h' σ'.n μ' h2 (ownOf env) → Frm C S env σ'.n μ' ρ' h2 → FlRep C.h0 σ'.n μ' h2 fl ff → P fl.val σ' →
        R (.ok (.ret (match ff with | .ret v => v | _ => .none))) { s with heap := h2, toks := t2 } := by
      intro fl ff ρ' σ' μ' h2 t2 R2 N2 _ fr hp
      have N3 : Nxt σ.n μ s.heap σ'.n μ' h2 NoOwn := by
        refine ⟨N2.nle, N2.mu, fun l h1 h3 => Nat.le_trans hsz (N2.fresh l h1 h3), Nat.le_trans hsz N2.size, fun b o e i => N2.imm b o (hk' b o e) i, fun b o e h1 zz1 => N2.keep b o (hk' b o e) h1 ?_⟩
        have hb := Heap.lt_size e
        rintro (q | ⟨y, q⟩)
        · rw [hel] at q; exact absurd q (Nat.ne_of_lt hb)
        · have := labove y b q; rw [hel] at this; exact absurd hb (Nat.not_lt.mpr (Nat.le_of_lt this))
      cases fr with
      | next => exact k _ _ σ' μ' h2 t2 R2 N3 .none hp
      | brk => exact k _ _ σ' μ' h2 t2 R2 N3 .none hp
      | cont => exact k _ _ σ' μ' h2 t2 R2 N3 .none hp
      | ret v u hv => exact k _ _ σ' μ' h2 t2 R2 N3 hv hp
    exact hF.go (A.deeper env) env _ μ (callRho as) σ _ _ _ ⟨a.deeper env, EO, R', FF⟩ hf fun fl ff ρ' σ' μ' h2 t2 R2 N2 F2 fr hp => fin fl ff ρ' σ' μ' h2 t2 R2 N2 F2 fr hp
end Mine
end

noncomputable section
open PySem PySem.W PyProof.Rows PySem.Calls
set_option Elab.async false
set_option maxRecDepth 100000
namespace Mine

structure ClsOk (K : Frag) (c : Addr) : Prop where
  ga : findIn K (.ref c) "__getattribute__" = some (some (.builtin "object.__getattribute__"))
  gattr : findIn K (.ref c) "__getattr__" = some none
  sa : findIn K (.ref c) "__setattr__" = some (some (.builtin "object.__setattr__"))
  cd : (clsIn K c).any (·.hasDict) = true
  over : plainOver K c = true
  makes : makesIn K c = true

theorem VRep.handed {h0 n μ h v u} (r : VRep h0 n μ h v u) : handedIn u = true := by cases r <;> rfl

section
variable {C : Ctx} {S : Sc} {d : Nat} {μ : Nat → Addr} {σ : St} {h : Heap}

theorem inst_at (R : Rel C μ σ h) {c a : Addr} {l : Nat} {kvs} (e : σ.obj l = some (.dS kvs)) (ea : h.get? a = some (instObj c (μ l))) :
    ∃ od kus, InstAt h a (instObj c (μ l)) c (some od) ∧ h.DictOf (strKind C.prog C.w) (μ l) kus ∧ PReps C.h0 σ.n μ h kvs kus ∧ ∀ name, lookIn name od = some (valueAt kus name) := by
  obtain ⟨kus, hd, hp⟩ := R.rep e
  obtain ⟨od, eo, hl⟩ := ns_lookIn (dictOf_ns hd)
  exact ⟨od, kus, ⟨ea, rfl, rfl, eo⟩, hd, hp, hl⟩

noncomputable def gAttr (c : Addr) (name : Str) : F1 := fun v σ P => ∃ l kvs w, v = .inst c l ∧ σ.obj l = some (.dS kvs) ∧ look kvs name = some w ∧ P w σ

theorem sim_getAttr {c : Addr} {name : Str} {b : Bool} (hc : ClsOk C.K c) (hn : findIn C.K (.ref c) name = some none) : Sim1 C d (fun u => getAttr u name b) (gAttr c name) := by
  intro A s μ σ v u P Q E a R r hg g
  obtain ⟨l, kvs, w, rfl, e, hw, q⟩ := hg
  cases r with | inst _ _ a hl ea =>
  obtain ⟨od, kus, I, _, hp, hlk⟩ := inst_at R e ea
  obtain ⟨x, hx, rx⟩ := hp.some hw
  obtain ⟨cd, hcd, hh⟩ := any_some hc.cd
  refine get_value (K := C.K) (C := c) (od := some od) (v := x) (C.KX.keeps R.base) I hc.ga ?_ rx.handed (g.same R rx q _)
  unfold findObj
  rw [hcd, Option.bind_some, hn, Option.bind_some]
  show (PySem.W.ownOf cd (some od) name).bind _ = _
  unfold PySem.W.ownOf
  rw [hh, if_pos rfl]
  show (lookIn name od).bind _ = _
  rw [hlk, hx]
  rfl

theorem simAttr {o : Expr} {name : Str} {pos} {fo : FE} {c : Addr} (ho : SimE C S d o fo) (hc : ClsOk C.K c) (hn : findIn C.K (.ref c) name = some none)
    (hb : ∀ env, attributeBase o name env (eval o env) = eval o env := by intro zz1; rfl) (ht : ∀ x r, letTemporaryGo o x r = pure () := by intro zz1 zz2; rfl) :
    SimE C S d (.Attribute o name pos) (Ex.op1 (gAttr c name) fo) := by
  constructor
  intro A env s μ ρ σ P Q E p hf g
  rw [arm_eval_Attribute, hb]
  refine wpAny_bind (wpAny_mono (ho.run p hf) (fun u s' h => ?_) fun zz1 zz2 e => e)
  obtain ⟨v, σ', μ', h', t', rfl, p', x, r, q⟩ := h
  refine wpAny_bind (wpAny_standAt (wpAny_bind (wpAny_holding ?_)))
  refine sim_getAttr (b := true) hc hn A _ μ' σ' v u P _ E p.a p'.r r q ?_
  intro v2 u2 σ2 μ2 h2 t2 R2 x2 r2 q2
  rw [ht]
  exact wpAny_bind (wpAny_pure (wpAny_pure (g v2 u2 σ2 μ2 h2 t2 R2 (x.trans x2) r2 q2)))

/-- a method of an instance, where a call asks it -/
theorem getMethod_inst {A : Around} {E : Value → Shared → Prop} {s : Shared} {x c dx f : Addr} {od : Obj} {name : Str} {m : Str → Option Value} {pl : Sem Bool} {Q : Value × List Value → Shared → Prop}
    (X : C.K.In s.heap) (I : InstAt s.heap x (instObj c dx) c (some od)) (hc : ClsOk C.K c) (hf : findIn C.K (.ref c) name = some (some (.ref f))) (hfn : typeIn C.K (.ref f) = some (.type "function"))
    (hn : s.heap.Ns dx m) (hm : m name = none) (h : Q (.ref f, [.ref x]) s) : wpAny (model C.prog C.w) A (getMethod (.ref x) name pl) Q E s := by
  have L0 : ∀ {n : Str} {r : Option Value}, findIn C.K (.ref c) n = some r → Looks (model C.prog C.w) s.heap (specialOf (.ref x) n) r := fun hr => I.type.andThen (looks_findIn X hr)
  unfold getMethod
  refine wpAny_bind ((L0 hc.ga).here ?_)
  dsimp only
  rw [if_neg (by decide +kernel)]
  refine wpAny_bind ((L0 hc.gattr).here ?_)
  rw [if_neg (by decide)]
  refine wpAny_bind ((L0 hf).here ?_)
  refine wpAny_bind ((looks_typeIn X hfn).here ?_)
  rw [if_neg (by decide)]
  refine wpAny_bind (wpAny_loadPart I.at_ ?_)
  dsimp only
  refine wpAny_bind (wpAny_nsGet hn ?_)
  rw [hm]
  exact wpAny_bind (wpAny_rule (wpAny_pure h))

/-- o.m(args): o an instance of a class of the text -/
theorem simMeth {o : Expr} {name : Str} {apos pos : Pos} {es fs} {fo : FE} {c f : Addr} {oc od fd osl} {FC : Fs} (ho : SimE C S d o fo) (H : SimEs C S d es fs) (hc : ClsOk C.K c)
    (hf : findIn C.K (.ref c) name = some (some (.ref f))) (hK : C.K.lookup f = some ⟨oc, od, .func fd, osl⟩) (hfn : typeIn C.K (.ref f) = some (.type "function"))
    (hm : SimN C d (fun us => call (.ref f) us []) FC)
    (hbase : ∀ env, attributeBase o name env (eval o env) = eval o env := by intro zz1; rfl) (hline : (apos.endLine == pos.line) = true := by decide) (hn : es.length < 20 := by decide) :
    SimE C S d (.Call (.Attribute o name apos) es [] pos)
      (fun ρ σ P => fo ρ σ fun v σ => (∃ l kvs, v = .inst c l ∧ σ.obj l = some (.dS kvs) ∧ look kvs name = none) ∧ Ex.evs fs ρ σ fun vs σ => FC (v :: vs) σ P) := by
  constructor
  intro A env s μ ρ σ P Q E p hf' g
  rw [arm_eval_Call, hbase]
  refine wpAny_bind (wpAny_mono (ho.run p hf') (fun u s' h => ?_) fun zz1 zz2 e => e)
  obtain ⟨v, σ', μ', h', t', rfl, p', x, r, ⟨l, kvs, rfl, e, hnone⟩, q⟩ := h
  refine wpAny_bind (wpAny_standAt ?_)
  have hform : methodCallForm (es.length + ([] : List Keyword).length) (backTo pos (starEach es env)) (backToKw pos (keywordEach [] env)) = true := by
    show ((backTo pos (starEach es env)).all (fun x => !x.1) && true && decide (es.length + 0 + 0 < 30)) = true
    rw [H.plain']
    simp; (first | lia | omega)
  have hpos : methodCallPos true o env apos pos = pure pos := by unfold methodCallPos; simp [hline]
  unfold methodCall
  rw [hform]
  cases r with | inst _ _ a hl ea =>
  obtain ⟨od', kus, I, hd, hp, hlk⟩ := inst_at p'.r e ea
  refine wpAny_bind (wpAny_holding ?_)
  refine getMethod_inst (C.KX.keeps p'.r.base) I hc hf hfn (dictOf_ns hd) (hp.none hnone) ?_
  refine wpAny_bind (wpAny_of_eq hpos ?_)
  refine callWith_function (o := ⟨oc, od, .func fd, osl⟩) (fd := fd) (wpAny_mono (H.args p' q) (fun a s' h => ?_) fun zz1 zz2 e => e)
  obtain ⟨vs, us, σ2, μ2, h2, t2, rfl, rfl, p2, y, r2, q⟩ := h
  exact ⟨⟨p2.r.base _ _ (C.KX _ _ hK), rfl⟩, hm A _ μ2 σ2 _ _ P Q E p.a p2.r (.cons _ _ _ _ ((VRep.inst c l a hl ea).nxt y) r2) q (g.after (x.trans y))⟩
end

/-! ### targets -/
noncomputable abbrev FT := AV → Rho → St → (Rho → St → Prop) → Prop

structure SimT (C : Ctx) (S : Sc) (d : Nat) (t : Expr) (F : FT) : Prop where
  go : ∀ A env s μ ρ σ v u P Q E, Pt C S d A env s μ ρ σ → VRep C.h0 σ.n μ s.heap v u → F v ρ σ P →
    (∀ ρ' σ' μ' h' t', Rel C μ' σ' h' → Nxt σ.n μ s.heap σ'.n μ' h' (ownOf env) → Frm C S env σ'.n μ' ρ' h' → P ρ' σ' → Q () { s with heap := h', toks := t' }) →
    wpAny (model C.prog C.w) A (assign t env u) Q E s

noncomputable def gSetAttr (c : Addr) (name : Str) (v o : AV) (σ : St) (P : St → Prop) : Prop := ∃ l kvs, o = .inst c l ∧ σ.obj l = some (.dS kvs) ∧ kvs.length ≤ 900 ∧ P (σ.set l (.dS (put kvs name v)))

section
variable {C : Ctx} {S : Sc} {d : Nat}

theorem simT_name {x : Str} {px} {i : Nat} {b : Bool} (hx : (x, i, b) ∈ S.vars) : SimT C S d (.Name x px) (fun v ρ σ P => P (upd ρ i (some v)) σ) := by
  constructor
  intro A env s μ ρ σ v u P Q E p r hf k
  refine PyProof.Rows.assign_Name (ownStore p hx r fun h' t' R' N' F' => k _ σ μ h' t' R' N' F' hf)

theorem setAttr_sim {c : Addr} {name : Str} {A : Around} {s : Shared} {μ : Nat → Addr} {σ : St} {v o : AV} {u x : Value} {P : St → Prop} {Q : Unit → Shared → Prop} {E : Value → Shared → Prop}
    (hc : ClsOk C.K c) (ht : takerIn C.K c name = some none) (R : Rel C μ σ s.heap) (r : VRep C.h0 σ.n μ s.heap v u) (ro : VRep C.h0 σ.n μ s.heap o x) (hg : gSetAttr c name v o σ P)
    (k : ∀ σ' h' t', Rel C μ σ' h' → Nxt σ.n μ s.heap σ'.n μ h' NoOwn → P σ' → Q () { s with heap := h', toks := t' }) : wpAny (model C.prog C.w) A (setAttr x name u) Q E s := by
  obtain ⟨l, kvs, rfl, e, hsz, q⟩ := hg
  cases ro with | inst _ _ a hl ea =>
  obtain ⟨od, kus, I, hd, hp, hlk⟩ := inst_at R e ea
  have X := C.KX.keeps R.base
  refine set_plain X I hc.sa (osa_open (s := { s with toks := s.toks + 1 }) X I hc.over ht fun b => ?_)
  obtain ⟨cd, hcd, hd'⟩ := any_some hc.cd
  refine wpAny_bind (wpAny_pure (wpAny_bind (wpAny_bind (wpAny_loadPart ea (wpAny_bind ((looks_clsIn X hcd) _ _ _ _ (fun zz1 zz2 e => e) ?_))))))
  rw [hd']
  refine wpAny_pure (a := some (μ l)) (wpAny_bind (wpAny_pure (wpAny_bind ?_)))
  refine nsSet_pairs hd fun h' hm hs => ?_
  obtain ⟨o', es', ep', ho', hx', hdd, _, hpp, _⟩ := id hm
  have hlen := hpp.length
  have hst := stored_length_le kus name u
  have hkl := hp.length
  simp at hlen
  refine wpAny_bind (wpAny_lookBehind ho' (by rw [hdd]; exact pastItsLine_dict (Nat.le_succ_of_le (le_line (by (first | lia | omega))))) ?_)
  have N := Nxt.set NoOwn R hl hs
  exact wpAny_pure (k (σ.set l (.dS (put kvs name v))) h' _ (R.set (o := .dS (put kvs name v)) hl hs ⟨_, hm, (hp.put name r).nxt N⟩) N q)

theorem simT_attr {o : Expr} {name : Str} {pos} {fo : FE} {c : Addr} (ho : SimE C S d o fo) (hc : ClsOk C.K c) (ht : takerIn C.K c name = some none) :
    SimT C S d (.Attribute o name pos) (fun v ρ σ P => fo ρ σ fun w σ => gSetAttr c name v w σ (P ρ)) := by
  constructor
  intro A env s μ ρ σ v u P Q E p r hf k
  rw [arm_assign_Attribute]
  refine wpAny_bind (wpAny_holding (wpAny_mono (ho.run p hf) (fun x s' h => ?_) fun zz1 zz2 e => e))
  obtain ⟨w, σ', μ', h', t', rfl, p', y, r', q⟩ := h
  refine wpAny_bind (wpAny_standAt (wpAny_bind (wpAny_holding ?_)))
  refine setAttr_sim hc ht p'.r (r.nxt y) r' q fun σ2 h2 t2 R2 N2 q2 => ?_
  have N := (y.trans N2).toOwn (ownOf env)
  have hrel : ∀ {Q' : Unit → Shared → Prop} {s2 : Shared}, Q' () s2 → wpAny (model C.prog C.w) A (release [u, x] []) Q' E s2 := fun hq Γ p zz1 => by rw [Sem.wp_release]; exact hq
  exact hrel (k ρ σ2 μ' h2 t2 R2 N (p'.f.nxt N2 (fun z => z) fun zz1 zz2 zz3 z => z) q2)

/-- one target -/
theorem simAssignT {t value pos fe} {T : FT} (he : SimE C S d value fe) (hT : SimT C S d t T)
    (h1 : ∀ env, swapsWithSole [t] value pos.line env = pure false := by intro zz1; rfl) (h2 : ∀ env, env.scope = S.scope → swappedStores [t] value env = pure none := by intro zz1 zz2; rfl)
    (h3 : ∀ env, (assignEach [t] env).map (·.2) = [assign t env] := by intro zz1; rfl) :
    SimS C S d (.Assign [t] value pos) (fun ρ σ P => fe ρ σ fun v σ => T v ρ σ (P .next)) := by
  constructor
  intro A env s μ ρ σ P Q E p hf g
  rw [PyProof.Rows.exec_Assign]
  refine wpAny_bind (wpAny_standAt ?_)
  rw [h1]
  refine wpAny_bind (wpAny_pure ?_)
  rw [if_neg (by decide)]
  refine wpAny_bind (wpAny_mono (he.run p hf) (fun u s' h => ?_) fun zz1 zz2 e => e)
  obtain ⟨v, σ', μ', h', t', rfl, p', y, r, q⟩ := h
  rw [h2 env p.e.scope]
  refine wpAny_bind (wpAny_pure ?_)
  rw [h3]
  show wpAny _ _ (do assign t env u; pure Flow.next) _ _ _
  refine wpAny_bind (hT.go A env _ μ' ρ σ' v u _ _ E p' r q fun ρ2 σ2 μ2 h2 t2 R2 N2 F2 q2 => ?_)
  exact wpAny_pure (g .next .next ρ2 σ2 μ2 h2 t2 R2 ((y.toOwn _).trans N2) F2 .next q2)
end
end Mine
end

noncomputable section
open PySem PySem.W PyProof.Rows PySem.Calls
set_option Elab.async false
set_option maxRecDepth 100000
namespace Mine

noncomputable abbrev intsA (ks : List Int) : List AV := ks.map AV.int

theorem itemsAre_of {prog w h0 n μ h} : ∀ {ks : List Int} {us : List Value}, VReps h0 n μ h (intsA ks) us → ItemsAre (intKind prog w) ks us
  | [], us, r => by cases r; exact .nil
  | k :: ks, us, r => by
    cases r with | cons _ _ u us r1 r2 =>
    cases r1
    exact .cons (intKind_is prog w k _) (itemsAre_of r2)
theorem tupKey_of {prog w h0 n μ h} {ks : List Int} {u : Value} (r : VRep h0 n μ h (.tup (intsA ks)) u) : ∃ a, u = .ref a ∧ IsTupleKey (intKind prog w) h ks a := by
  cases r with | tup _ a items k e rr => exact ⟨a, rfl, _, items, k, e, rfl, rfl, itemsAre_of rr⟩

section
variable {C : Ctx} {μ : Nat → Addr} {σ : St} {h : Heap}
theorem Rel.notMods (R : Rel C μ σ h) {l : Nat} (hl : l < σ.n) : (μ l == sysModules) = false := by
  have h1 := R.above l hl
  have h2 : builtinsNs < C.h0.objs.size := C.T.b.lt
  have h3 : mainGlobals < C.h0.objs.size := C.T.g.lt
  have : sysModules < C.h0.objs.size := by
    have : (1 : Nat) ≤ mainGlobals := by decide
    exact Nat.lt_of_le_of_lt this h3
  exact beq_eq_false_iff_ne.mpr (Nat.ne_of_gt (Nat.lt_of_lt_of_le this h1))
end

/-! ### reading an item -/
noncomputable def gItem : F2 := fun v i σ P => match v, i with
  | .tup xs, .int k => 0 ≤ k ∧ k < 1000000 ∧ ∃ w, xs[k.toNat]? = some w ∧ P w σ
  | .ref l, .int k => (match σ.obj l with
    | some (.list xs) => 0 ≤ k ∧ k < 1000000 ∧ ∃ w, xs[k.toNat]? = some w ∧ P w σ
    | some (.dI kvs) => ∃ w, look kvs k = some w ∧ P w σ
    | _ => False)
  | .ref l, .str x => (match σ.obj l with
    | some (.dS kvs) => ∃ w, look kvs x = some w ∧ P w σ
    | _ => False)
  | _, _ => False

noncomputable def subOk (v : AV) (σ : St) : Prop := (∃ xs, v = .tup xs) ∨ isList v σ ∨ isDictS v σ ∨ isDictI v σ
theorem gItem_ok {v i σ P} (g : gItem v i σ P) : subOk v σ := by
  unfold gItem at g
  split at g
  · exact .inl ⟨_, rfl⟩
  · split at g
    · exact .inr (.inl ⟨_, _, rfl, by assumption⟩)
    · exact .inr (.inr (.inr ⟨_, _, rfl, by assumption⟩))
    · exact g.elim
  · split at g
    · exact .inr (.inr (.inl ⟨_, _, rfl, by assumption⟩))
    · exact g.elim
  · exact g.elim

theorem seqIdx {k : Int} {n : Nat} (h0 : 0 ≤ k) (h1 : k.toNat < n) : seqIndex? k n = some k.toNat := by
  have h2 : ¬ k < 0 := by (first | lia | omega)
  have h3 : k < (n : Int) := by (first | lia | omega)
  simp [seqIndex?, h2, h0, h3]

section
variable {C : Ctx} {S : Sc} {d : Nat}

theorem subOk_looks {A : Around} {E : Value → Shared → Prop} {s : Shared} {μ σ v u} {Q : Bool → Shared → Prop} (R : Rel C μ σ s.heap) (r : VRep C.h0 σ.n μ s.heap v u) (k : subOk v σ) (q : Q false s) :
    wpAny (model C.prog C.w) A (getitemInPython u) Q E s := by
  have ne : u ≠ .builtin "sys.modules#opaque" := by
    rcases k with ⟨xs, rfl⟩ | ⟨l, vs, rfl, _⟩ | ⟨l, vs, rfl, _⟩ | ⟨l, vs, rfl, _⟩ <;> cases r <;> exact fun h => nomatch h
  rw [getitemInPython_of_ne ne]
  rcases k with ⟨xs, rfl⟩ | k | k | k
  · cases r with | tup _ a items kk e rr =>
    exact wpAny_bind (wpAny_specialOf (T := "tuple") ⟨_, e, rfl⟩ F.slot_tuple_getitem.lookup (wpAny_pure q))
  · exact wpAny_bind (wpAny_specialOf (kind_list μ σ s v u R r k).1 slot_list_getitem.lookup (wpAny_pure q))
  · exact wpAny_bind (wpAny_specialOf (kind_dictS μ σ s v u R r k).1 slot_dict_getitem.lookup (wpAny_pure q))
  · exact wpAny_bind (wpAny_specialOf (kind_dictI μ σ s v u R r k).1 slot_dict_getitem.lookup (wpAny_pure q))

theorem sim_getItem : Sim2 C d (fun o i => getItem o i) gItem := by
  intro A s μ σ v i u x P Q E a R r ri hg g
  unfold gItem at hg
  split at hg
  · rename_i xs k
    obtain ⟨h0, h1, w, hw, q⟩ := hg
    cases r with | tup _ b items kk e rr =>
    cases ri with | int _ t =>
    obtain ⟨y, hy, ry⟩ := rr.get hw
    have hlt : k.toNat < items.size := by
      have := (List.getElem?_eq_some_iff.mp hy).1; simpa using this
    exact PyProof.Rows.getItem_tuple (j := k.toNat) ⟨_, e, rfl, _, rfl⟩ (by (first | lia | omega)) (by (first | lia | omega)) (seqIdx h0 hlt) (by simpa using hy) (g.same R ry q _)
  · rename_i l k
    cases r
    cases ri with | int _ t =>
    split at hg
    · rename_i xs e
      obtain ⟨h0, h1, w, hw, q⟩ := hg
      obtain ⟨items, kk, e', rr⟩ := R.rep e
      obtain ⟨y, hy, ry⟩ := rr.get hw
      exact wpAny_getItem_list ⟨_, e', rfl, _, rfl⟩ h0 (by (first | lia | omega)) (by simpa using hy) (g.same R ry q _)
    · rename_i kvs e
      obtain ⟨w, hw, q⟩ := hg
      obtain ⟨kus, hd, hp⟩ := R.rep e
      obtain ⟨y, hy, ry⟩ := hp.some hw
      exact wpAny_getItem_of (intKind_is _ _ k t) hd.mapOf hy (g.same R ry q _)
    · exact hg.elim
  · rename_i l k
    cases r
    cases ri with | str _ t =>
    split at hg
    · rename_i kvs e
      obtain ⟨w, hw, q⟩ := hg
      obtain ⟨kus, hd, hp⟩ := R.rep e
      obtain ⟨y, hy, ry⟩ := hp.some hw
      exact wpAny_getItem_of (strKind_is _ _ k t) hd.mapOf hy (g.same R ry q _)
    · exact hg.elim
  · exact hg.elim

/-- value[slice], any kind of slice expression that is no slice object -/
theorem simSub {value slice : Expr} {pos} {fv fi : FE} (hv : SimE C S d value fv) (hi : SimE C S d slice fi)
    (hs : ∀ o i, subscripted slice false o i = operate [o, i] (getItem o i) := by intro zz1 zz2; rfl) : SimE C S d (.Subscript value slice pos) (Ex.op2 gItem fv fi) := by
  constructor
  intro A env s μ ρ σ P Q E p hf g
  rw [arm_eval_Subscript]
  refine wpAny_bind (wpAny_mono (hv.run p hf) (fun u s' h => ?_) fun zz1 zz2 e => e)
  obtain ⟨v, σ', μ', h', t', rfl, p', x, r, q⟩ := h
  refine wpAny_bind (wpAny_holding (wpAny_mono (hi.run p' q) (fun u2 s' h => ?_) fun zz1 zz2 e => e))
  obtain ⟨v2, σ2, μ2, h2, t2, rfl, p2, x2, r2, q2⟩ := h
  refine wpAny_bind (wpAny_standAt (wpAny_bind ?_))
  refine subOk_looks p2.r (r.nxt x2) (gItem_ok q2) ?_
  rw [hs]
  refine wpAny_bind (wpAny_operating ?_)
  refine sim_getItem (d := d) A _ μ2 σ2 v v2 u u2 P _ E p.a p2.r (r.nxt x2) r2 q2 ?_
  intro v3 u3 σ3 μ3 h3 t3 R3 x3 r3 q3
  exact wpAny_bind (wpAny_letTemporaryGo (wpAny_pure (g v3 u3 σ3 μ3 h3 t3 R3 ((x.trans x2).trans x3) r3 q3)))

/-! ### storing an item of a dict -/
noncomputable def gSetItem (v o i : AV) (σ : St) (P : St → Prop) : Prop := match o, i with
  | .ref l, .int k => (match σ.obj l with
    | some (.dI kvs) => kvs.length ≤ 900 ∧ P (σ.set l (.dI (put kvs k v)))
    | _ => False)
  | .ref l, .str k => (match σ.obj l with
    | some (.dS kvs) => kvs.length ≤ 900 ∧ P (σ.set l (.dS (put kvs k v)))
    | _ => False)
  | _, _ => False

theorem setItem_sim {A : Around} {s : Shared} {μ : Nat → Addr} {σ : St} {v o i : AV} {u x y : Value} {P : St → Prop} {Q : Unit → Shared → Prop} {E : Value → Shared → Prop}
    (R : Rel C μ σ s.heap) (r : VRep C.h0 σ.n μ s.heap v u) (ro : VRep C.h0 σ.n μ s.heap o x) (ri : VRep C.h0 σ.n μ s.heap i y) (hg : gSetItem v o i σ P)
    (k : ∀ σ' h' t', Rel C μ σ' h' → Nxt σ.n μ s.heap σ'.n μ h' NoOwn → P σ' → Q () { s with heap := h', toks := t' }) : wpAny (model C.prog C.w) A (setItem x y u) Q E s := by
  unfold gSetItem at hg
  split at hg
  · rename_i l key
    cases ro
    cases ri with | int _ t =>
    split at hg
    · rename_i kvs e
      obtain ⟨hsz, q⟩ := hg
      obtain ⟨kus, hd, hp⟩ := R.rep e
      have hl := R.lt l _ e
      refine wpAny_setItem_pairs (intKind_is _ _ key t) hd (hsz := le_line (by have := hp.length; (first | lia | omega))) fun h' hm hs => ?_
      have N := Nxt.set NoOwn R hl hs
      exact k (σ.set l (.dI (put kvs key v))) h' _ (R.set (o := .dI (put kvs key v)) hl hs ⟨_, hm, (hp.put key r).nxt N⟩) N q
    · exact hg.elim
  · rename_i l key
    cases ro
    cases ri with | str _ t =>
    split at hg
    · rename_i kvs e
      obtain ⟨hsz, q⟩ := hg
      obtain ⟨kus, hd, hp⟩ := R.rep e
      have hl := R.lt l _ e
      refine wpAny_setItem_pairs (strKind_is _ _ key t) hd (hsz := le_line (by have := hp.length; (first | lia | omega))) fun h' hm hs => ?_
      have N := Nxt.set NoOwn R hl hs
      exact k (σ.set l (.dS (put kvs key v))) h' _ (R.set (o := .dS (put kvs key v)) hl hs ⟨_, hm, (hp.put key r).nxt N⟩) N q
    · exact hg.elim
  · exact hg.elim

theorem simT_sub {o i : Expr} {pos} {fo fi : FE} (ho : SimE C S d o fo) (hi : SimE C S d i fi) :
    SimT C S d (.Subscript o i pos) (fun v ρ σ P => fo ρ σ fun w σ => fi ρ σ fun j σ => gSetItem v w j σ (P ρ)) := by
  constructor
  intro A env s μ ρ σ v u P Q E p r hf k
  rw [arm_assign_Subscript]
  refine wpAny_bind (wpAny_holding (wpAny_mono (ho.run p hf) (fun x s' h => ?_) fun zz1 zz2 e => e))
  obtain ⟨w, σ', μ', h', t', rfl, p', y, r', q⟩ := h
  refine wpAny_bind (wpAny_holding (wpAny_mono (hi.run p' q) (fun x2 s' h => ?_) fun zz1 zz2 e => e))
  obtain ⟨w2, σ2, μ2, h2, t2, rfl, p2, y2, r2, q2⟩ := h
  refine wpAny_bind (wpAny_standAt (wpAny_bind (wpAny_holding ?_)))
  refine setItem_sim p2.r ((r.nxt y).nxt y2) (r'.nxt y2) r2 q2 fun σ3 h3 t3 R3 N3 q3 => ?_
  have hrel : ∀ {vs : List Value} {Q' : Unit → Shared → Prop} {s2 : Shared}, Q' () s2 → wpAny (model C.prog C.w) A (release vs []) Q' E s2 := fun hq Γ p zz1 => by rw [Sem.wp_release]; exact hq
  exact hrel (k ρ σ3 μ2 h3 t3 R3 (((y.trans y2).trans N3).toOwn (ownOf env)) (p2.f.nxt N3 (fun z => z) fun zz1 zz2 zz3 z => z) q3)
end
end Mine
end

noncomputable section
open PySem PySem.W PyProof.Rows PySem.Calls
set_option Elab.async false
set_option maxRecDepth 100000
namespace Mine

/-! ### dict.get, dict.setdefault -/
section
variable {prog : Program} {w : World}

theorem valueAt_find {κ : Type} [DecidableEq κ] (kus : List (κ × Value)) (k : κ) : (kus.find? fun kv => decide (kv.1 = k)).map (·.2) = valueAt kus k := rfl

theorem setDefault_pairs {K : Type} [DecidableEq K] {knd : KeyKind prog w K} {A : Around} {E : Value → Shared → Prop} {s : Shared} {d : Addr} {kus : List (K × Value)} {k : K} {key dflt : Value} {Q : Value → Shared → Prop}
    (hkey : knd.is k key = true) (hm : s.heap.DictOf knd d kus)
    (hthere : ∀ v, valueAt kus k = some v → Q v { s with toks := s.toks + 1 })
    (hnew : valueAt kus k = none → ∀ h', h'.DictOf knd d (stored kus k dflt) → Heap.SameBut d s.heap h' → Q dflt { s with heap := h', toks := s.toks + 1 })
    (hz : kus.length ≤ sizeLine) : wpAny (model prog w) A (dictSetDefault d key dflt) Q E s := by
  obtain ⟨o, es, ep, ho, hc, hd, hk, hp, hn⟩ := hm
  have hf : ∀ x, findBy knd.is es x = valueAt kus x := fun x => by
    rw [← hp.find x]; unfold findBy; rw [← Array.find?_toList]
  have hes : es.size ≤ sizeLine := by
    have e1 := hp.length
    have e2 : es.toList.length = es.size := by simp
    (first | lia | omega)
  unfold dictSetDefault
  try with_reducible refine wpAny_holding ?_
  refine wpAny_bind (knd.pyHash hkey ?_)
  refine wpAny_bind (wpAny_dictFind_of (s := { s with toks := s.toks + 1 }) hkey ho hd hk ?_)
  have hidx : (es.findIdx? fun e => knd.is k e.key) = kus.findIdx? fun kv => decide (kv.1 = k) := by
    rw [← hp.findIdx k]; obtain ⟨l⟩ := es; simp
  cases hi : es.findIdx? fun e => knd.is k e.key with
  | some i =>
    have hfk : valueAt kus k = (es[i]?).map (·.val) := by rw [← hf k, findBy_of_findIdx?, hi]
    refine wpAny_bind (wpAny_dictEntries (s := { s with toks := s.toks + 1 }) ho hd ?_)
    cases he : es[i]? with
    | none =>
      exfalso
      have := Array.findIdx?_eq_some_iff_findIdx_eq.mp hi
      rw [Array.getElem?_eq_getElem this.1] at he
      exact nomatch he
    | some e =>
      rw [he] at hfk
      exact wpAny_bind (wpAny_rule (wpAny_pure (hthere e.val hfk)))
  | none =>
    have hfk : valueAt kus k = none := by rw [← hf k, findBy_of_findIdx?, hi]
    have hnot : k ∉ kus.map (·.1) := not_mem_of_findIdx_none (hidx ▸ hi)
    have hany : ¬ (kus.any fun kv => decide (kv.1 = k)) = true := by
      rw [List.any_eq_true]; rintro ⟨kv, hkv, he⟩
      exact hnot (List.mem_map.mpr ⟨kv, hkv, of_decide_eq_true he⟩)
    refine wpAny_bind (wpAny_rule (wpAny_bind (wpAny_updateDictKeys (hz := hes) (s := { s with toks := s.toks + 1 }) ho hd (wpAny_pure (hnew hfk _ ⟨_, _, ep + 1, Heap.get?_update_self _ ho (Obj.isFreed_of_dict (Obj.data_mapDictKeys hd _)),
      hc.mapDictKeys _, Obj.data_mapDictKeys hd _, hk.push hkey _, ?_, ?_⟩ (Heap.SameBut.update ..))))))
    · rw [stored, if_neg hany]
      have := hp.append hkey (knd.hash k) dflt
      obtain ⟨l⟩ := es
      simpa using this
    · rw [stored, if_neg hany, List.map_append, List.nodup_append]
      refine ⟨hn, by simp, ?_⟩
      intro a ha b hb
      simp only [List.map_cons, List.map_nil, List.mem_singleton] at hb
      subst hb
      exact fun e => hnot (e ▸ ha)

theorem setDefault_heap {K : Type} [DecidableEq K] {knd : HeapKind prog w K} {A : Around} {E : Value → Shared → Prop} {s : Shared} {d a : Addr} {xs : List (K × Addr × Value)} {k : K} {dflt : Value} {Q : Value → Shared → Prop}
    (hu : knd.room A) (hkey : knd.is s.heap k a) (hm : s.heap.DictOfH knd d xs)
    (hthere : ∀ v, (atKey xs k).map (·.2) = some v → Q v { s with toks := s.toks + knd.draws k })
    (hnew : atKey xs k = none → ∀ h', h'.DictOfH knd d (xs ++ [(k, a, dflt)]) → Heap.SameBut d s.heap h' → Q dflt { s with heap := h', toks := s.toks + knd.draws k })
    (hz : xs.length ≤ sizeLine) : wpAny (model prog w) A (dictSetDefault d (.ref a) dflt) Q E s := by
  obtain ⟨o, es, ep, ho, hc, hd, he, his, hn⟩ := hm
  unfold dictSetDefault
  try with_reducible refine wpAny_holding ?_
  refine wpAny_bind (knd.pyHash hu hkey ?_)
  refine wpAny_bind (wpAny_dictFind_heap (s := { s with toks := s.toks + knd.draws k }) hu hkey ho hd he his hn ?_ ?_)
  · intro hno
    have hnot : k ∉ xs.map (·.1) := not_mem_keys_of_get hno
    refine wpAny_bind (wpAny_rule (wpAny_bind (wpAny_updateDictKeys (hz := by have e := size_of_entries he; (first | lia | omega)) (s := { s with toks := s.toks + knd.draws k }) ho hd (wpAny_pure (hnew (atKey_none_of_get hno) _ ⟨_, _, ep + 1, Heap.get?_update_self _ ho (Obj.isFreed_of_dict (Obj.data_mapDictKeys hd _)),
      hc.mapDictKeys _, Obj.data_mapDictKeys hd _, ?_, ?_, ?_⟩ (Heap.SameBut.update ..))))))
    · simp [he, entryOfKey]
    · intro x hx
      rcases List.mem_append.mp hx with hx | hx
      · exact knd.keeps (his x hx) ho hd (Heap.SameBut.update ..)
      · simp only [List.mem_singleton] at hx
        subst hx
        exact knd.keeps hkey ho hd (Heap.SameBut.update ..)
    · rw [List.map_append, List.nodup_append]
      refine ⟨hn, by simp, ?_⟩
      intro x hx y hy
      simp only [List.map_cons, List.map_nil, List.mem_singleton] at hy
      subst hy
      exact fun e => hnot (e ▸ hx)
  · intro j p hj
    refine wpAny_bind (wpAny_dictEntries (s := { s with toks := s.toks + knd.draws k }) ho hd ?_)
    rw [entry_at he j, hj]
    exact wpAny_bind (wpAny_rule (wpAny_pure (hthere _ (by rw [atKey_of_get hn hj]; rfl))))
end

theorem atKey_valueAt {K : Type} [DecidableEq K] (xs : List (K × Addr × Value)) (k : K) : (atKey xs k).map (·.2) = valueAt (xs.map fun x => (x.1, x.2.2)) k := by
  induction xs with
  | nil => rfl
  | cons x r ih =>
    by_cases q : x.1 = k
    · simp [atKey, valueAt, q]
    · simpa [atKey, valueAt, q] using ih

noncomputable def gGet1 : Fs := fun vs σ P => ∃ l kvs x, vs = [.ref l, .str x] ∧ σ.obj l = some (.dS kvs) ∧ P ((look kvs x).getD .none) σ
noncomputable def gGet2I : Fs := fun vs σ P => ∃ l kvs k dv, vs = [.ref l, .int k, dv] ∧ σ.obj l = some (.dI kvs) ∧ P ((look kvs k).getD dv) σ
noncomputable def gGet2T : Fs := fun vs σ P => ∃ l kvs ks dv, vs = [.ref l, .tup (intsA ks), dv] ∧ σ.obj l = some (.dT kvs) ∧ P ((look kvs ks).getD dv) σ
noncomputable def gSetdI : Fs := fun vs σ P => ∃ l kvs k dv, vs = [.ref l, .int k, dv] ∧ σ.obj l = some (.dI kvs) ∧ kvs.length ≤ 900 ∧
  (∀ v, look kvs k = some v → P v σ) ∧ (look kvs k = none → P dv (σ.set l (.dI (put kvs k dv))))
noncomputable def gSetdT : Fs := fun vs σ P => ∃ l kvs ks dv, vs = [.ref l, .tup (intsA ks), dv] ∧ σ.obj l = some (.dT kvs) ∧ kvs.length ≤ 900 ∧
  (∀ v, look kvs ks = some v → P v σ) ∧ (look kvs ks = none → P dv (σ.set l (.dT (kvs ++ [(ks, dv)]))))

theorem PReps.getD {κ : Type} [DecidableEq κ] {h0 n μ h} {a : List (κ × AV)} {b : List (κ × Value)} (r : PReps h0 n μ h a b) (k : κ) {dv : AV} {du : Value} (hd : VRep h0 n μ h dv du) :
    VRep h0 n μ h ((Mine.look a k).getD dv) ((valueAt b k).getD du) := by
  rcases r.look k with ⟨x, y⟩ | ⟨v, u, x, y, z⟩
  · rw [x, y]; exact hd
  · rw [x, y]; exact z

section
variable {C : Ctx} {S : Sc} {d : Nat}

theorem simN_get1 : SimN C d (fun us => call (.builtin "dict.get") us []) gGet1 := by
  intro A s μ σ as us P Q E a R r hg g
  obtain ⟨l, kvs, x, rfl, e, q⟩ := hg
  cases r with | cons _ _ u1 _ r1 rr =>
  cases rr with | cons _ _ u2 _ r2 rr =>
  cases rr
  cases r1
  cases r2 with | str _ t =>
  obtain ⟨kus, hd, hp⟩ := R.rep e
  refine call_meetsIn F.slot_dict_get hd.typeIs F.entry_dict_get (F.args_dict_get_2 _ _) (meets_dict_get (strKind C.prog C.w) (μ l) (strKind_is _ _ x t) (R.notMods (R.lt l _ e))) ⟨_, hd.mapOf, ?_⟩
  exact g.same R (hp.getD x .none) q _

theorem simN_get2I : SimN C d (fun us => call (.builtin "dict.get") us []) gGet2I := by
  intro A s μ σ as us P Q E a R r hg g
  obtain ⟨l, kvs, x, dv, rfl, e, q⟩ := hg
  cases r with | cons _ _ u1 _ r1 rr =>
  cases rr with | cons _ _ u2 _ r2 rr =>
  cases rr with | cons _ _ u3 _ r3 rr =>
  cases rr
  cases r1
  cases r2 with | int _ t =>
  obtain ⟨kus, hd, hp⟩ := R.rep e
  refine call_meetsIn F.slot_dict_get hd.typeIs F.entry_dict_get (F.args_dict_get_3 _ _ _) (meets_dict_get_default (intKind C.prog C.w) (μ l) (intKind_is _ _ x t) (R.notMods (R.lt l _ e)) u3) ⟨_, hd.mapOf, ?_⟩
  exact g.same R (hp.getD x r3) q _

theorem simN_get2T : SimN C d (fun us => call (.builtin "dict.get") us []) gGet2T := by
  intro A s μ σ as us P Q E a R r hg g
  obtain ⟨l, kvs, ks, dv, rfl, e, q⟩ := hg
  cases r with | cons _ _ u1 _ r1 rr =>
  cases rr with | cons _ _ u2 _ r2 rr =>
  cases rr with | cons _ _ u3 _ r3 rr =>
  cases rr
  cases r1
  obtain ⟨b, rfl, hk⟩ := tupKey_of (prog := C.prog) (w := C.w) r2
  obtain ⟨xs, hd, hp⟩ := R.rep e
  have hT : s.TypeIs (.ref (μ l)) "dict" := let ⟨o, _, _, ho, hc, _⟩ := hd; ⟨o, ho, hc.1⟩
  refine call_meetsIn F.slot_dict_get hT F.entry_dict_get (F.args_dict_get_3 _ _ _) (meetsH_dict_get_default (tupKnd C.prog C.w) (μ l) b (R.notMods (R.lt l _ e)) u3) ⟨(by show A.units + 1 < cLine; have := a.room; (first | lia | omega)), ks, xs, hk, hd, ?_⟩
  rw [atKey_valueAt]
  exact g.same R (hp.getD ks r3) q _

theorem dictLe_of {K : Type} [DecidableEq K] {prog w} {knd : KeyKind prog w K} {h : Heap} {a : Addr} {kus : List (K × Value)} (_x : h.DictOf knd a kus) : True := trivial

theorem simN_setdI : SimN C d (fun us => call (.builtin "dict.setdefault") us []) gSetdI := by
  intro A s μ σ as us P Q E a R r hg g
  obtain ⟨l, kvs, x, dv, rfl, e, hz, q1, q2⟩ := hg
  cases r with | cons _ _ u1 _ r1 rr =>
  cases rr with | cons _ _ u2 _ r2 rr =>
  cases rr with | cons _ _ u3 _ r3 rr =>
  cases rr
  cases r1
  cases r2 with | int _ t =>
  obtain ⟨kus, hd, hp⟩ := R.rep e
  have hl := R.lt l _ e
  refine wpAny_call_entry F.slot_dict_setdefault hd.typeIs F.entry_dict_setdefault ?_ (F.args_dict_setdefault_3 _ _ _)
  unfold Builtin.«dict.setdefault»
  refine wpAny_bind ?_
  unfold Builtin.Dict.keyAndDefault
  refine wpAny_bind (wpAny_notOrdered_dict hd.typeIs ?_)
  show wpAny _ _ (pure ((μ l), Value.int x t, some u3)) _ _ s
  refine wpAny_pure ?_
  show wpAny _ _ (if (μ l == sysModules) = true then _ else (dictSetDefault (μ l) (.int x t) u3 >>= _)) _ _ s
  rw [if_neg (by rw [R.notMods hl]; exact Bool.false_ne_true)]
  refine wpAny_bind (setDefault_pairs (intKind_is C.prog C.w x t) hd (fun v hv => ?_) (fun hv h' hm hs => ?_) (le_line (by have := hp.length; (first | lia | omega))))
  · rcases hp.look x with ⟨y, z⟩ | ⟨v', u', y, z, zr⟩
    · rw [z] at hv; cases hv
    · rw [z] at hv; cases hv
      exact wpAny_pure ⟨_, rfl, g.same R zr (q1 _ y) _⟩
  · rcases hp.look x with ⟨y, z⟩ | ⟨v', u', y, z, zr⟩
    · have N := Nxt.set NoOwn R hl hs
      exact wpAny_pure ⟨_, rfl, g dv u3 (σ.set l (.dI (put kvs x dv))) μ h' _ (R.set (o := .dI (put kvs x dv)) hl hs ⟨_, hm, (hp.put x r3).nxt N⟩) N (r3.nxt N) (q2 y)⟩
    · rw [z] at hv; cases hv

theorem simN_setdT : SimN C d (fun us => call (.builtin "dict.setdefault") us []) gSetdT := by
  intro A s μ σ as us P Q E a R r hg g
  obtain ⟨l, kvs, ks, dv, rfl, e, hz, q1, q2⟩ := hg
  cases r with | cons _ _ u1 _ r1 rr =>
  cases rr with | cons _ _ u2 _ r2 rr =>
  cases rr with | cons _ _ u3 _ r3 rr =>
  cases rr
  cases r1
  obtain ⟨b, rfl, hk⟩ := tupKey_of (prog := C.prog) (w := C.w) r2
  obtain ⟨xs, hd, hp⟩ := R.rep e
  have hl := R.lt l _ e
  have hT : s.TypeIs (.ref (μ l)) "dict" := let ⟨o, _, _, ho, hc, _⟩ := hd; ⟨o, ho, hc.1⟩
  have hlen : xs.length ≤ 900 := by have := hp.length; simp at this; (first | lia | omega)
  refine wpAny_call_entry F.slot_dict_setdefault hT F.entry_dict_setdefault ?_ (F.args_dict_setdefault_3 _ _ _)
  unfold Builtin.«dict.setdefault»
  refine wpAny_bind ?_
  unfold Builtin.Dict.keyAndDefault
  refine wpAny_bind (wpAny_notOrdered_dict hT ?_)
  show wpAny _ _ (pure ((μ l), Value.ref b, some u3)) _ _ s
  refine wpAny_pure ?_
  show wpAny _ _ (if (μ l == sysModules) = true then _ else (dictSetDefault (μ l) (.ref b) u3 >>= _)) _ _ s
  rw [if_neg (by rw [R.notMods hl]; exact Bool.false_ne_true)]
  refine wpAny_bind (setDefault_heap (knd := tupKnd C.prog C.w) (by show A.units + 1 < cLine; have := a.room; (first | lia | omega)) hk hd (fun v hv => ?_) (fun hv h' hm hs => ?_) (le_line (by (first | lia | omega))))
  · rw [atKey_valueAt] at hv
    rcases hp.look ks with ⟨y, z⟩ | ⟨v', u', y, z, zr⟩
    · rw [z] at hv; cases hv
    · rw [z] at hv; cases hv
      exact wpAny_pure ⟨_, rfl, g.same R zr (q1 _ y) _⟩
  · have hv' : valueAt (xs.map fun x => (x.1, x.2.2)) ks = none := by rw [← atKey_valueAt, hv]; rfl
    rcases hp.look ks with ⟨y, z⟩ | ⟨v', u', y, z, zr⟩
    · have N := Nxt.set NoOwn R hl hs
      refine wpAny_pure ⟨_, rfl, g dv u3 (σ.set l (.dT (kvs ++ [(ks, dv)]))) μ h' _ (R.set (o := .dT (kvs ++ [(ks, dv)])) hl hs ⟨_, hm, ?_⟩) N (r3.nxt N) (q2 y)⟩
      rw [List.map_append]
      exact ((hp.append (.cons ks dv [] u3 [] r3 .nil))).nxt N
    · rw [z] at hv'; cases hv'

/-! ### in -/
noncomputable def gInS (neg : Bool) : F2 := fun k c σ P => ∃ l kvs x, k = .str x ∧ c = .ref l ∧ σ.obj l = some (.dS kvs) ∧ P (.bool ((look kvs x).isSome != neg)) σ

theorem PReps.isSome {κ : Type} [DecidableEq κ] {h0 n μ h} {a : List (κ × AV)} {b : List (κ × Value)} (r : PReps h0 n μ h a b) (k : κ) : (valueAt b k).isSome = (Mine.look a k).isSome := by
  rcases r.look k with ⟨x, y⟩ | ⟨v, u, x, y, _⟩ <;> rw [x, y] <;> rfl

theorem sim_inS : Sim2 C d (fun k c => compareOp .In k c) (gInS false) := by
  intro A s μ σ k c u x P Q E a R r rc hg g
  obtain ⟨l, kvs, y, rfl, rfl, e, q⟩ := hg
  cases rc
  cases r with | str _ t =>
  obtain ⟨kus, hd, hp⟩ := R.rep e
  refine wpAny_in_of (strKind_is C.prog C.w y t) (R.notMods (R.lt l _ e)) hd.mapOf ?_
  rw [hp.isSome]
  exact g.same R (.bool _) (by simpa using q) _

theorem sim_notInS : Sim2 C d (fun k c => compareOp .NotIn k c) (gInS true) := by
  intro A s μ σ k c u x P Q E a R r rc hg g
  obtain ⟨l, kvs, y, rfl, rfl, e, q⟩ := hg
  cases rc
  cases r with | str _ t =>
  obtain ⟨kus, hd, hp⟩ := R.rep e
  have h2 : wpAny (model C.prog C.w) A (compareOp .In (.str y t) (.ref (μ l))) (fun v s' => ∃ b, v = .bool b ∧ Q (.bool (!b)) s') E s := by
    refine wpAny_in_of (strKind_is C.prog C.w y t) (R.notMods (R.lt l _ e)) hd.mapOf ?_
    rw [hp.isSome]
    exact ⟨_, rfl, g.same R (.bool _) (by simpa using q) _⟩
  show wpAny _ _ (do return Value.bool (!(← contains (.ref (μ l)) (.str y t)))) _ _ _
  have h3 : wpAny (model C.prog C.w) A (do let b ← contains (.ref (μ l)) (.str y t); pure (Value.bool b)) (fun v s' => ∃ b, v = .bool b ∧ Q (.bool (!b)) s') E s := h2
  intro Γ p hΓ
  have h4 := h3 Γ p hΓ
  rw [Sem.wp_bind'] at h4 ⊢
  exact Sem.wp_mono _ Γ _ (fun b p' s' hh => by obtain ⟨b', e, hq⟩ := hh; cases e; exact hq) (fun zz1 zz2 zz3 h => h) _ _ h4
end
end Mine
end

noncomputable section
open PySem PySem.W PyProof.Rows PySem.Calls
set_option Elab.async false
set_option maxRecDepth 100000
namespace Mine

/-! ### loops -/
structure Src (C : Ctx) (tgt : Expr) (own : List Addr) (I : Addr) (vs : List AV) (okA : St → Prop) (ok : (Nat → Addr) → St → Heap → Prop) (It : Nat → Heap → Prop) (Mid : Nat → Value → Heap → Prop) : Prop where
  frame : ∀ i h h', It i h → (∀ b ∈ own, ∀ o, h.get? b = some o → h'.get? b = some o) → It i h'
  live : ∀ i h, It i h → ∀ b ∈ own, ∃ o, h.get? b = some o ∧ ¬ Imm o
  okof : ∀ μ σ h, ok μ σ h → okA σ
  stab : ∀ μ σ h μ' σ' h' o, ok μ σ h → Nxt σ.n μ h σ'.n μ' h' o → okA σ' → ok μ' σ' h'
  item : ∀ (A : Around) i μ σ (s : Shared) v (Q : Option Value → Shared → Prop) (E : Value → Shared → Prop), A.handled = none → A.units + 30 < cLine → Rel C μ σ s.heap → ok μ σ s.heap → It i s.heap → vs[i]? = some v →
    (∀ u h' t', VRep C.h0 σ.n μ h' v u → Mid i u h' → (∀ b ∈ own, ∃ o, h'.get? b = some o ∧ ¬ Imm o) → (∀ b o, b ∉ own → s.heap.get? b = some o → h'.get? b = some o) → Q (some u) { s with heap := h', toks := t' }) → wpAny (model C.prog C.w) A (pyNext (.ref I)) Q E s
  go : ∀ (A : Around) i u (s : Shared) (Q : Unit → Shared → Prop) (E : Value → Shared → Prop), Mid i u s.heap →
    (∀ h', It (i + 1) h' → (∀ b o, b ∉ own → s.heap.get? b = some o → h'.get? b = some o) → Q () { s with heap := h' }) → wpAny (model C.prog C.w) A (letOwnedTupleGo tgt (.ref I) u) Q E s
  self : ∀ (A : Around) i (s : Shared) (Q : Value → Shared → Prop) (E : Value → Shared → Prop), It i s.heap → Q (.ref I) s → wpAny (model C.prog C.w) A (pyIter (.ref I)) Q E s
  done : ∀ (A : Around) μ σ (s : Shared) (Q : Option Value → Shared → Prop) (E : Value → Shared → Prop), A.handled = none → A.units + 30 < cLine → Rel C μ σ s.heap → ok μ σ s.heap → It vs.length s.heap →
    (∀ h' t', (∀ b o, b ∉ own → s.heap.get? b = some o → h'.get? b = some o) → Q none { s with heap := h', toks := t' }) → wpAny (model C.prog C.w) A (pyNext (.ref I)) Q E s

structure OwnOk (C : Ctx) (env : Env) (own : List Addr) (n : Nat) (μ : Nat → Addr) (h : Heap) : Prop where
  ab : ∀ b ∈ own, C.h0.objs.size ≤ b
  mu : ∀ b ∈ own, ∀ l, l < n → μ l ≠ b
  loc : ∀ b ∈ own, b ≠ env.locals
  cel : ∀ b ∈ own, ∀ y c, env.cells.lookup y = some c → b ≠ c
  lt : ∀ b ∈ own, b < h.objs.size

theorem OwnOk.nxt {C env own n μ h n' μ' h'} {o : Addr → Prop} (x : OwnOk C env own n μ h) (y : Nxt n μ h n' μ' h' o) : OwnOk C env own n' μ' h' :=
  ⟨x.ab, fun b hb l hl => by
    by_cases q : l < n
    · rw [y.mu l q]; exact x.mu b hb l q
    · exact Nat.ne_of_gt (Nat.lt_of_lt_of_le (x.lt b hb) (y.fresh l (Nat.not_lt.mp q) hl)), x.loc, x.cel, fun b hb => Nat.lt_of_lt_of_le (x.lt b hb) y.size⟩

/-- only the loop's own objects were turned -/
theorem ownStep {C : Ctx} {env : Env} {own : List Addr} {μ : Nat → Addr} {σ : St} {h h' : Heap} (R : Rel C μ σ h) (O : OwnOk C env own σ.n μ h) (hl : ∀ b ∈ own, ∃ o, h.get? b = some o ∧ ¬ Imm o)
    (hk : ∀ b o, b ∉ own → h.get? b = some o → h'.get? b = some o) (hs : h.objs.size ≤ h'.objs.size) : Rel C μ σ h' ∧ Nxt σ.n μ h σ.n μ h' (fun a => a ∈ own) := by
  have N : Nxt σ.n μ h σ.n μ h' (fun a => a ∈ own) := ⟨Nat.le_refl _, fun zz1 zz2 => rfl, fun l h1 h2 => absurd h2 (Nat.not_lt.mpr h1), hs,
    fun a o e i => hk a o (fun hm => by obtain ⟨o', e', ni⟩ := hl a hm; rw [e'] at e; cases e; exact ni i) e, fun a o e zz1 h2 => hk a o h2 e⟩
  refine ⟨⟨fun a o e => hk a o (fun hm => absurd (Heap.lt_size e) (Nat.not_lt.mpr (O.ab a hm))) (R.base a o e), Nat.le_trans R.size hs, R.inj, R.above, R.lt, fun l hl' => ?_⟩, N⟩
  obtain ⟨o, e, r⟩ := R.obj l hl'
  exact ⟨o, e, r.nxt N fun o e => hk _ o (fun hm => O.mu _ hm l hl' rfl) e⟩

noncomputable def forL (T : FT) (body : FS) (ok : St → Prop) : List AV → FS
  | [] => fun ρ σ P => P .next ρ σ
  | v :: vs => fun ρ σ P => T v ρ σ fun ρ σ => body ρ σ fun fl ρ σ => match fl with
    | .next | .cont => ok σ ∧ forL T body ok vs ρ σ P
    | .brk => P .next ρ σ
    | .ret w => P (.ret w) ρ σ

section
variable {C : Ctx} {S : Sc} {d : Nat}

theorem forCore {tgt : Expr} {own : List Addr} {I : Addr} {vs : List AV} {okA : St → Prop} {ok : (Nat → Addr) → St → Heap → Prop} {It : Nat → Heap → Prop} {Mid : Nat → Value → Heap → Prop} {T : FT} {F : FS} {body : List Stmt}
    (Sr : Src C tgt own I vs okA ok It Mid) (hT : SimT C S d tgt T) (hB : SimSs C S d body F) {A : Around} {env : Env} {s : Shared} {μ : Nat → Addr} {ρ : Rho} {σ : St} {P : Fl → Rho → St → Prop} {R : Result → Shared → Prop}
    (p : Pt C S d A env s μ ρ σ) (O : OwnOk C env own σ.n μ s.heap) (hok : ok μ σ s.heap) (hit : It 0 s.heap) (hf : forL T F okA vs ρ σ P)
    (k : ∀ f ff ρ' σ' μ' h' t', Rel C μ' σ' h' → Nxt σ.n μ s.heap σ'.n μ' h' (fun a => a ∈ own ∨ ownOf env a) → Frm C S env σ'.n μ' ρ' h' → FlRep C.h0 σ'.n μ' h' f ff → P f ρ' σ' → R (.ok ff) { s with heap := h', toks := t' }) :
    codeAny (model C.prog C.w) A (.forLoop tgt (.ref I) body [] env) R s := by
  have hu : A.units + 30 < cLine := by have := p.a.room; (first | lia | omega)
  refine codeAny_forLoop_any
    (fun m s' => ∃ i h' t' ρ' σ' μ', s' = { s with heap := h', toks := t' } ∧ Pt C S d A env { s with heap := h', toks := t' } μ' ρ' σ' ∧ Nxt σ.n μ s.heap σ'.n μ' h' (fun a => a ∈ own ∨ ownOf env a) ∧ OwnOk C env own σ'.n μ' h' ∧ ok μ' σ' h' ∧ It i h' ∧
      forL T F okA (vs.drop i) ρ' σ' P ∧ i ≤ vs.length ∧ m = vs.length + 1 - i) ?_ (vs.length + 1) ⟨0, s.heap, s.toks, ρ, σ, μ, rfl, p, Nxt.refl .., O, hok, hit, hf, Nat.zero_le _, rfl⟩
  rintro m s' ⟨i, h', t', ρ', σ', μ', rfl, p', N', O', hok', hit', hf', hi, rfl⟩
  by_cases hlt : i < vs.length
  · have hv : vs[i]? = some vs[i] := List.getElem?_eq_getElem hlt
    rw [List.drop_eq_getElem_cons hlt] at hf'
    refine withSize (Sr.item A i μ' σ' _ vs[i] _ _ p.a.hd hu p'.r hok' hit' hv fun u h1 t1 r1 hm1 hl1 hk1 hs1 => ?_)
    obtain ⟨R1, N1⟩ := ownStep p'.r O' (Sr.live i h' hit') hk1 hs1
    have O1 := O'.nxt N1
    refine withSize (Sr.go A i u _ _ _ hm1 fun h2 hit2 hk2 hs2 => ?_)
    obtain ⟨R2, N2⟩ := ownStep R1 O1 hl1 hk2 hs2
    have O2 := O1.nxt N2
    have N12 := N1.trans N2
    have F2 : Frm C S env σ'.n μ' ρ' h2 := p'.f.nxt N12 (fun z => O'.loc _ z rfl) fun y c hc z => O'.cel _ z y c hc rfl
    have p2 : Pt C S d A env { s with heap := h2, toks := t1 } μ' ρ' σ' := ⟨p.a, p.e, R2, F2⟩
    refine hT.go A env _ μ' ρ' σ' vs[i] u _ _ _ p2 (r1.nxt N2) hf' fun ρ3 σ3 μ3 h3 t3 R3 N3 F3 hf3 => ?_
    have p3 : Pt C S d A env { s with heap := h3, toks := t3 } μ3 ρ3 σ3 := ⟨p.a, p.e, R3, F3⟩
    have O3 := O2.nxt N3
    refine wpAny_mono (hB.run p3 hf3) (fun ff s' h => ?_) fun zz1 zz2 e => e
    obtain ⟨fl, ρ4, σ4, μ4, h4, t4, rfl, p4, N4, r4, q4⟩ := h
    have O4 := O3.nxt N4
    have N34 : Nxt σ'.n μ' h2 σ4.n μ4 h4 (ownOf env) := N3.trans N4
    have NA : Nxt σ.n μ s.heap σ4.n μ4 h4 (fun a => a ∈ own ∨ ownOf env a) := N'.trans ((N12.own fun a z => .inl z).trans (N34.own fun a z => .inr z))
    have hit4 : It (i + 1) h4 := Sr.frame _ _ _ hit2 fun b hb o e => N34.keep b o e (fun l hl => Ne.symm (O2.mu b hb l hl)) (fun z => by
      rcases z with z | ⟨y, z⟩
      · exact O2.loc b hb z
      · exact O2.cel b hb y b z rfl)
    have again : okA σ4 ∧ forL T F okA (vs.drop (i + 1)) ρ4 σ4 P → ∃ m', m' < vs.length + 1 - i ∧ ∃ i h' t' ρ' σ' μ', { s with heap := h4, toks := t4 } = { s with heap := h', toks := t' } ∧ Pt C S d A env { s with heap := h', toks := t' } μ' ρ' σ' ∧ Nxt σ.n μ s.heap σ'.n μ' h' (fun a => a ∈ own ∨ ownOf env a) ∧ OwnOk C env own σ'.n μ' h' ∧ ok μ' σ' h' ∧ It i h' ∧
      forL T F okA (vs.drop i) ρ' σ' P ∧ i ≤ vs.length ∧ m' = vs.length + 1 - i := fun z =>
      ⟨vs.length + 1 - (i + 1), by (first | lia | omega), i + 1, h4, t4, ρ4, σ4, μ4, rfl, p4, NA, O4, Sr.stab μ' σ' _ μ4 σ4 _ _ hok' ((N12.own fun a z => Or.inl (b := ownOf env a) z).trans (N34.own fun a z => Or.inr z)) z.1, hit4, z.2, hlt, rfl⟩
    cases r4 with
    | next => exact again q4
    | cont => exact again q4
    | brk => exact k .next .next ρ4 σ4 μ4 h4 t4 p4.r NA p4.f .next q4
    | ret v u' hv' => exact k (.ret v) (.ret u') ρ4 σ4 μ4 h4 t4 p4.r NA p4.f (.ret v u' hv') q4
  · have hie : i = vs.length := by (first | lia | omega)
    subst hie
    rw [List.drop_length] at hf'
    refine withSize (Sr.done A μ' σ' _ _ _ p.a.hd hu p'.r hok' hit' fun h1 t1 hk1 hs1 => ?_)
    obtain ⟨R1, N1⟩ := ownStep p'.r O' (Sr.live _ h' hit') hk1 hs1
    have F1 : Frm C S env σ'.n μ' ρ' h1 := p'.f.nxt N1 (fun z => O'.loc _ z rfl) fun y c hc z => O'.cel _ z y c hc rfl
    exact wpAny_execs_nil (k .next .next ρ' σ' μ' h1 t1 R1 (N'.trans (N1.own fun a z => .inl z)) F1 .next hf')

/-- what is run over: the value, its iterator -/
structure SimI (C : Ctx) (S : Sc) (d : Nat) (tgt iter : Expr) (FI : Rho → St → (List AV → (St → Prop) → St → Prop) → Prop) : Prop where
  go : ∀ A env s μ ρ σ K (Q : Value → Shared → Prop) E, Pt C S d A env s μ ρ σ → FI ρ σ K →
    (∀ σ' μ' h' t' vs okA own I ok It Mid, Pt C S d A env { s with heap := h', toks := t' } μ' ρ σ' → Nxt σ.n μ s.heap σ'.n μ' h' NoOwn → Src C tgt own I vs okA ok It Mid → OwnOk C env own σ'.n μ' h' → (∀ b ∈ own, s.heap.objs.size ≤ b) →
      ok μ' σ' h' → It 0 h' → K vs okA σ' → Q (.ref I) { s with heap := h', toks := t' }) →
    wpAny (model C.prog C.w) A (eval iter env) (fun x s₁ => wpAny (model C.prog C.w) A (pyIter x) Q E s₁) E s

theorem simFor {tgt iter : Expr} {body : List Stmt} {pos} {FI} {T : FT} {F : FS} (hi : SimI C S d tgt iter FI) (hT : SimT C S d tgt T) (hB : SimSs C S d body F)
    (hs : ∀ env x, foldedSetIterable iter env x = pure x := by intro zz1 zz2; rfl) :
    SimS C S d (.For tgt iter body [] pos) (fun ρ σ P => FI ρ σ fun vs ok σ => forL T F ok vs ρ σ P) := by
  constructor
  intro A env s μ ρ σ P Q E p hf g
  refine wpAny_For (hi.go A env s μ ρ σ _ _ E p hf fun σ' μ' h1 t1 vs okA own I ok It Mid p1 N1 Sr O1 hown hok hit hfor => ?_) (hs env)
  refine forCore Sr hT hB (s := { s with heap := h1, toks := t1 }) p1 O1 hok hit hfor ?_
  intro f ff ρ2 σ2 μ2 h2 t2 R2 N2 F2 r2 q2
  refine g f ff ρ2 σ2 μ2 h2 t2 R2 ?_ F2 r2 q2
  have Z := (N1.own (own' := fun a => a ∈ own ∨ ownOf env a) fun zz1 z => z.elim).trans N2
  exact ⟨Z.nle, Z.mu, Z.fresh, Z.size, Z.imm, fun a o e h1 h3 => Z.keep a o e h1 fun z => by
    rcases z with z | z
    · exact absurd (Heap.lt_size e) (Nat.not_lt.mpr (hown a z))
    · exact h3 z⟩

/-- a value that is asked for its iterator, made anew -/
noncomputable def GSrc : Type := AV → St → (List AV → (St → Prop) → Prop) → Prop

noncomputable def SrcOk (C : Ctx) (d : Nat) (tgt : Expr) (G : GSrc) : Prop := ∀ (A : Around) (s : Shared) μ σ v u (K : List AV → (St → Prop) → Prop) (Q : Value → Shared → Prop) (E : Value → Shared → Prop), AOk d A → Rel C μ σ s.heap → VRep C.h0 σ.n μ s.heap v u → G v σ K →
    (∀ vs okA (own : List Addr) (I : Addr) ok It Mid h' t', K vs okA → Src C tgt own I vs okA ok It Mid → (∀ b ∈ own, s.heap.objs.size ≤ b) → (∀ b ∈ own, b < h'.objs.size) → ok μ σ h' → It 0 h' → s.heap.objs.size ≤ h'.objs.size → (∀ a o, s.heap.get? a = some o → h'.get? a = some o) →
      Q (.ref I) { s with heap := h', toks := t' }) → wpAny (model C.prog C.w) A (pyIter u) Q E s

theorem simI {tgt iter : Expr} {fi : FE} {G : GSrc} (hi : SimE C S d iter fi) (hG : SrcOk C d tgt G) : SimI C S d tgt iter (fun ρ σ K => fi ρ σ fun v σ => G v σ fun vs ok => K vs ok σ) := by
  constructor
  intro A env s μ ρ σ K Q E p hf g
  refine wpAny_mono (hi.run p hf) (fun u s' h => ?_) fun zz1 zz2 e => e
  obtain ⟨v, σ', μ', h', t', rfl, p', x, r, q⟩ := h
  refine hG A _ μ' σ' v u _ _ _ p.a p'.r r q fun vs okA own I ok It Mid h1 t1 hK Sr hown hown2 hok hit hsz hk => ?_
  have R1 : Rel C μ' σ' h1 := p'.r.grow hsz hk
  have N1 : Nxt σ'.n μ' h' σ'.n μ' h1 NoOwn := Nxt.grow NoOwn hsz hk σ'.n μ'
  have F1 := p'.f.nxt N1 (fun z => z) fun zz1 zz2 zz3 z => z
  refine g σ' μ' h1 t1 vs okA own I ok It Mid ⟨p.a, p.e, R1, F1⟩ (x.trans N1) Sr ?_ (fun b hb => Nat.le_trans x.size (hown b hb)) hok hit hK
  refine ⟨fun b hb => Nat.le_trans p'.r.size (hown b hb), fun b hb l hl => ?_, fun b hb => ?_, fun b hb y c hc => ?_, hown2⟩
  · exact Nat.ne_of_lt (Nat.lt_of_lt_of_le (p'.r.mulive hl) (hown b hb))
  · obtain ⟨m, hn, _⟩ := p'.f.loc
    exact Nat.ne_of_gt (Nat.lt_of_lt_of_le hn.lt (hown b hb))
  · obtain ⟨w, hw⟩ := p'.f.cellt y c hc
    exact Nat.ne_of_gt (Nat.lt_of_lt_of_le hw.lt (hown b hb))
end
end Mine
end

noncomputable section
open PySem PySem.W PyProof.Rows PySem.Calls
set_option Elab.async false
set_option maxRecDepth 100000
namespace Mine

theorem notImm_of {o : Obj} (h1 : o.cls ≠ .type "tuple") (h2 : o.cls ≠ .type "range") (h3 : ∀ c, o.cls ≠ .ref c) : ¬ Imm o := by
  rintro (⟨z, _⟩ | ⟨c, dx, z⟩ | ⟨z, _⟩)
  · exact h1 z
  · exact h3 c (by rw [z])
  · exact h2 z

noncomputable def gSeq : GSrc := fun v σ K => match v with
  | .tup xs => K xs (fun zz1 => True)
  | .ref l => (match σ.obj l with
    | some (.list xs) => K xs (fun σ => σ.obj l = some (.list xs))
    | _ => False)
  | _ => False

/-- the ints of a range -/
noncomputable def rngInts (a b : Int) : List AV := (List.range (b - a).toNat).map fun (i : Nat) => AV.int (a + (i : Int))
noncomputable def gRng : GSrc := fun v zz1 K => ∃ a b, v = .rng a b ∧ -1000000000 < a ∧ a < 1000000000 ∧ -1000000000 < b ∧ b < 1000000000 ∧ K (rngInts a b) (fun zz1 => True)

section
variable {C : Ctx} {S : Sc} {d : Nat}

theorem src_list {tgt : Expr} (I ax l : Nat) (xs : List AV) (hne : ax ≠ I) :
    Src C tgt [I] I xs (fun σ => σ.obj l = some (.list xs)) (fun μ σ zz1 => σ.obj l = some (.list xs) ∧ l < σ.n ∧ μ l = ax) (fun i h => h.IsListIter I ax i) (fun i zz1 h => h.IsListIter I ax (i + 1)) where
  frame := fun i h h' it hk => by
    obtain ⟨o, e, r⟩ := it
    exact ⟨o, hk I (by simp) o e, r⟩
  live := fun i h it b hb => by
    simp at hb; subst hb
    obtain ⟨o, e, c, dd⟩ := it
    exact ⟨o, e, notImm_of (by rw [c]; decide) (by rw [c]; decide) (by rw [c]; intro c; exact fun h => nomatch h)⟩
  okof := fun μ σ h ok => ok.1
  stab := fun μ σ h μ' σ' h' o ok N z => ⟨z, Nat.lt_of_lt_of_le ok.2.1 N.nle, (N.mu l ok.2.1).trans ok.2.2⟩
  item := fun A i μ σ s v Q E hh hu R ok it hv k => by
    obtain ⟨e, hl, rfl⟩ := ok
    obtain ⟨items, kk, e', rr⟩ := R.rep e
    obtain ⟨u, hu, ru⟩ := rr.get hv
    refine wpAny_pyNext_list_item it ⟨_, e', rfl, _, rfl⟩ (by simpa using hu) fun h' it' hs => ?_
    have hI : ∃ o, s.heap.get? I = some o ∧ ¬ Imm o := by
      obtain ⟨o, e, c, dd⟩ := it
      exact ⟨o, e, notImm_of (by rw [c]; decide) (by rw [c]; decide) (by rw [c]; intro c; exact fun h => nomatch h)⟩
    obtain ⟨oI, eI, nI⟩ := hI
    have N : Nxt σ.n μ s.heap σ.n μ h' (fun a => a = I) := Nxt.other (fun a => a = I) hs rfl eI nI σ.n μ
    refine k u h' s.toks (ru.nxt N) it' (fun b hb => ?_) (fun b o hb e => hs.extBut b o (fun z => hb (by simp [z])) e)
    simp at hb; subst hb
    obtain ⟨o, e, c, dd⟩ := it'
    exact ⟨o, e, notImm_of (by rw [c]; decide) (by rw [c]; decide) (by rw [c]; intro c; exact fun h => nomatch h)⟩
  self := fun A i s Q E it q => wpAny_pyIter_listiter it q
  go := fun A i u s Q E it k => letGo_listiter it (k s.heap it fun zz1 zz2 zz3 e => e)
  done := fun A μ σ s Q E hh hu R ok it k => by
    obtain ⟨e, hl, rfl⟩ := ok
    obtain ⟨items, kk, e', rr⟩ := R.rep e
    have hlen := rr.length
    exact wpAny_pyNext_list_end hh it ⟨_, e', rfl, _, rfl⟩ (Array.getElem?_eq_none (by simp at hlen; (first | lia | omega))) fun h' he => k h' s.toks fun b o hb e => he b o (fun z => hb (by simp [z])) e

theorem src_tup {tgt : Expr} (I a : Nat) (xs : List AV) (items : Array Value) (kk : Nat) (hne : a ≠ I) :
    Src C tgt [I] I xs (fun zz1 => True) (fun μ σ h => h.get? a = some { cls := .type "tuple", data := .seq items kk } ∧ VReps C.h0 σ.n μ h xs items.toList) (fun i h => IsTupIter h I a i) (fun i zz1 h => IsTupIter h I a (i + 1)) where
  frame := fun i h h' it hk => by
    obtain ⟨o, e, r⟩ := it
    exact ⟨o, hk I (by simp) o e, r⟩
  live := fun i h it b hb => by
    simp at hb; subst hb
    obtain ⟨o, e, c, dd⟩ := it
    exact ⟨o, e, notImm_of (by rw [c]; decide) (by rw [c]; decide) (by rw [c]; intro c; exact fun h => nomatch h)⟩
  okof := fun μ σ h ok => trivial
  stab := fun μ σ h μ' σ' h' o ok N z => ⟨N.imm _ _ ok.1 (.inl ⟨rfl, _, _, rfl⟩), ok.2.nxt N⟩
  item := fun A i μ σ s v Q E hh hu R ok it hv k => by
    obtain ⟨e', rr⟩ := ok
    obtain ⟨u, hu, ru⟩ := rr.get hv
    refine next_tuple_item it ⟨_, e', rfl, _, rfl⟩ (by simpa using hu) fun h' it' hs => ?_
    have hI : ∃ o, s.heap.get? I = some o ∧ ¬ Imm o := by
      obtain ⟨o, e, c, dd⟩ := it
      exact ⟨o, e, notImm_of (by rw [c]; decide) (by rw [c]; decide) (by rw [c]; intro c; exact fun h => nomatch h)⟩
    obtain ⟨oI, eI, nI⟩ := hI
    have N : Nxt σ.n μ s.heap σ.n μ h' (fun a => a = I) := Nxt.other (fun a => a = I) hs rfl eI nI σ.n μ
    refine k u h' s.toks (ru.nxt N) it' (fun b hb => ?_) (fun b o hb e => hs.extBut b o (fun z => hb (by simp [z])) e)
    simp at hb; subst hb
    obtain ⟨o, e, c, dd⟩ := it'
    exact ⟨o, e, notImm_of (by rw [c]; decide) (by rw [c]; decide) (by rw [c]; intro c; exact fun h => nomatch h)⟩
  self := fun A i s Q E it q => wpAny_pyIter_tupleiter it q
  go := fun A i u s Q E it k => letGo_tupleiter it (k s.heap it fun zz1 zz2 zz3 e => e)
  done := fun A μ σ s Q E hh hu R ok it k => by
    obtain ⟨e', rr⟩ := ok
    have hlen := rr.length
    exact next_tuple_end hh it ⟨_, e', rfl, _, rfl⟩ (Array.getElem?_eq_none (by simp at hlen; (first | lia | omega))) fun h' he => k h' s.toks fun b o hb e => he b o (fun z => hb (by simp [z])) e

theorem srcOk_seq {tgt : Expr} : SrcOk C d tgt gSeq := by
  intro A s μ σ v u K Q E a R r hg k
  unfold gSeq at hg
  split at hg
  · rename_i xs
    cases r with | tup _ b items kk e rr =>
    have hb : b < s.heap.objs.size := Heap.lt_size e
    refine iter_tuple ⟨_, e, rfl, _, rfl⟩ ?_
    have hk : ∀ a o, s.heap.get? a = some o → (s.heap.push { cls := .type "tuple_iterator", data := .fields #[.ref b, .int 0 0] }).get? a = some o := fun a o e => Heap.get?_push_of_some _ e
    exact k xs _ [s.heap.objs.size] s.heap.objs.size _ _ _ _ s.toks hg (src_tup s.heap.objs.size b xs items kk (Nat.ne_of_lt hb)) (by simp) (by simp) ⟨hk _ _ e, rr.nxt (Nxt.grow NoOwn (push_le _ _) hk σ.n μ)⟩
      ⟨_, Heap.get?_push_size _ rfl, rfl, rfl⟩ (push_le _ _) hk
  · rename_i l
    split at hg
    · rename_i xs e
      cases r
      have hl := R.lt l _ e
      obtain ⟨items, kk, e', rr⟩ := R.rep e
      refine wpAny_pyIter_list ⟨_, e', rfl, _, rfl⟩ ?_
      have hk : ∀ a o, s.heap.get? a = some o → (s.heap.push { cls := .type "list_iterator", data := .fields #[.ref (μ l), .int 0 0] }).get? a = some o := fun a o e => Heap.get?_push_of_some _ e
      exact k xs _ [s.heap.objs.size] s.heap.objs.size _ _ _ _ s.toks hg (src_list s.heap.objs.size (μ l) l xs (Nat.ne_of_lt (R.mulive hl))) (by simp) (by simp) ⟨e, hl, rfl⟩
        ⟨_, Heap.get?_push_size _ rfl, rfl, rfl⟩ (push_le _ _) hk
    · exact hg.elim
  · exact hg.elim

theorem src_rng {tgt : Expr} (hgo : ∀ (A : Around) (i : Nat) (u : Value) (s : Shared) (I : Addr) (x l st : Int) (Q : Unit → Shared → Prop) (E : Value → Shared → Prop), IsRangeIter s.heap I x l st → Q () s → wpAny (model C.prog C.w) A (letOwnedTupleGo tgt (.ref I) u) Q E s)
    (I : Nat) (a b : Int) :
    Src C tgt [I] I (rngInts a b) (fun zz1 => True) (fun zz1 zz2 zz3 => True) (fun i h => IsRangeIter h I (a + (i : Nat)) ((b - a).toNat - (i : Nat) : Int) 1) (fun i zz1 h => IsRangeIter h I (a + ((i + 1 : Nat) : Int)) ((b - a).toNat - ((i + 1 : Nat) : Int)) 1) where
  frame := fun i h h' it hk => hk I (by simp) _ it
  live := fun i h it b hb => by
    simp at hb; subst hb
    exact ⟨_, it, notImm_of (o := { cls := .type "range_iterator", data := _ }) (fun h => by simp at h) (fun h => by simp at h) (fun c => fun h => nomatch h)⟩
  okof := fun μ σ h ok => trivial
  stab := fun μ σ h μ' σ' h' o ok N z => trivial
  item := fun A i μ σ s v Q E hh hu R ok it hv k => by
    have hlt : i < (b - a).toNat := by
      have := (List.getElem?_eq_some_iff.mp hv).1
      simpa [rngInts] using this
    have hve : v = .int (a + (i : Int)) := by
      have h2 : (rngInts a b)[i]? = some (.int (a + (i : Int))) := by simp [rngInts, List.getElem?_map, List.getElem?_range hlt]
      rw [h2] at hv; cases hv; rfl
    subst hve
    refine wpAny_pyNext_range_item it (by (first | lia | omega)) fun h' it' hs => ?_
    have it2 : IsRangeIter h' I (a + ((i + 1 : Nat) : Int)) ((b - a).toNat - ((i + 1 : Nat) : Int)) 1 := by
      have e1 : a + (i : Int) + 1 = a + ((i + 1 : Nat) : Int) := by (first | lia | omega)
      have e2 : ((b - a).toNat : Int) - (i : Int) - 1 = (b - a).toNat - ((i + 1 : Nat) : Int) := by (first | lia | omega)
      rw [← e1, ← e2]; exact it'
    refine k _ h' _ (.int _ _) it2 (fun b hb => ?_) (fun b o hb e => hs.extBut b o (fun z => hb (by simp [z])) e)
    simp at hb; subst hb
    exact ⟨_, it2, notImm_of (o := { cls := .type "range_iterator", data := _ }) (fun h => by simp at h) (fun h => by simp at h) (fun c => fun h => nomatch h)⟩
  self := fun A i s Q E it q => wpAny_pyIter_rangeiter it q
  go := fun A i u s Q E it k => hgo A i u s I _ _ _ Q E it (k s.heap it fun zz1 zz2 zz3 e => e)
  done := fun A μ σ s Q E hh hu R ok it k => by
    refine wpAny_pyNext_range_end hh it (by simp [rngInts]) fun h' he => k h' s.toks fun b o hb e => he b o (fun z => hb (by simp [z])) e

theorem go_name {x px} : ∀ (A : Around) (i : Nat) (u : Value) (s : Shared) (I : Addr) (a l st : Int) (Q : Unit → Shared → Prop) (E : Value → Shared → Prop), IsRangeIter s.heap I a l st → Q () s → wpAny (model C.prog C.w) A (letOwnedTupleGo (.Name x px) (.ref I) u) Q E s :=
  fun zz1 zz2 zz3 zz4 zz5 zz6 zz7 zz8 zz9 zz10 zz11 q => wpAny_pure q

theorem srcOk_rng {x px} : SrcOk C d (.Name x px) gRng := by
  intro A s μ σ v u K Q E a R r hg k
  obtain ⟨x, y, rfl, h1, h2, h3, h4, hg⟩ := hg
  cases r with | rng _ _ r t u w e =>
  have hsz : Builtin.Range.rangeSize x y 1 = ((y - x).toNat : Int) := by
    unfold Builtin.Range.rangeSize
    rw [if_pos (by decide)]
    split <;> (first | lia | omega)
  have hsm : Builtin.Range.small x y 1 = true := by
    unfold Builtin.Range.small Builtin.Range.rangeFitsLong
    rw [hsz]
    simp
    refine ⟨⟨⟨⟨by (first | lia | omega), by (first | lia | omega)⟩, by (first | lia | omega), by (first | lia | omega)⟩, by (first | lia | omega), by (first | lia | omega)⟩, ?_⟩
    right
    constructor <;> (first | lia | omega)
  refine wpAny_pyIter_range e hsm ?_
  rw [hsz]
  have hk : ∀ a o, s.heap.get? a = some o → (s.heap.push { cls := .type "range_iterator", data := .fields #[rawInt x, rawInt ((y - x).toNat : Int), rawInt 1] }).get? a = some o := fun a o e => Heap.get?_push_of_some _ e
  refine k _ _ [s.heap.objs.size] s.heap.objs.size _ _ _ _ s.toks hg (src_rng go_name s.heap.objs.size x y) (by simp) (by simp) trivial ?_ (push_le _ _) hk
  have : IsRangeIter (s.heap.push { cls := .type "range_iterator", data := .fields #[rawInt x, rawInt ((y - x).toNat : Int), rawInt 1] }) s.heap.objs.size x ((y - x).toNat : Int) 1 := Heap.get?_push_size _ rfl
  simpa using this
end
end Mine
end

noncomputable section
open PySem PySem.W PyProof.Rows PySem.Calls
set_option Elab.async false
set_option maxRecDepth 100000
namespace Mine

/-! ### comprehensions -/
noncomputable abbrev FA := Rho → St → (Rho → St → Prop) → Prop

noncomputable def compL (i : Nat) (test : FB) (act : FA) (ok : St → Prop) : List AV → FA
  | [] => fun ρ σ P => P ρ σ
  | v :: vs => fun ρ σ P => test (upd ρ i (some v)) σ fun b σ1 =>
      (b = true → act (upd ρ i (some v)) σ1 fun ρ2 σ2 => ok σ2 ∧ compL i test act ok vs ρ2 σ2 P) ∧ (b = false → ok σ1 ∧ compL i test act ok vs (upd ρ i (some v)) σ1 P)

noncomputable abbrev testsOf (ifs : List Expr) (env : Env) : Sem Bool := forIn ifs true fun c r => if r = true then do let ok ← isTrue c env (eval c env); pure (ForInStep.yield ok) else pure (ForInStep.yield r)

structure SimTests (C : Ctx) (S : Sc) (d : Nat) (ifs : List Expr) (F : FB) : Prop where
  go : ∀ A env s μ ρ σ P (Q : Bool → Shared → Prop) E, Pt C S d A env s μ ρ σ → F ρ σ P →
    (∀ b σ' μ' h' t', Rel C μ' σ' h' → Nxt σ.n μ s.heap σ'.n μ' h' NoOwn → P b σ' → Q b { s with heap := h', toks := t' }) → wpAny (model C.prog C.w) A (testsOf ifs env) Q E s

noncomputable def yes : FB := fun zz1 σ P => P true σ

structure SimA (C : Ctx) (S : Sc) (d : Nat) (la : Nat) (acc : Value) (act : Env → Sem Unit) (F : FA) : Prop where
  go : ∀ A env s μ ρ σ P (Q : Unit → Shared → Prop) E, Pt C S d A env s μ ρ σ → la < σ.n → acc = .ref (μ la) → F ρ σ P →
    (∀ ρ' σ' μ' h' t', Rel C μ' σ' h' → Nxt σ.n μ s.heap σ'.n μ' h' (fun a => a = env.locals) → Frm C S env σ'.n μ' ρ' h' → P ρ' σ' → Q () { s with heap := h', toks := t' }) → wpAny (model C.prog C.w) A (act env) Q E s

noncomputable def emit (la : Nat) (elt : FE) : FA := fun ρ σ P => elt ρ σ fun w σ => ∃ xs, σ.obj la = some (.list xs) ∧ xs.length ≤ 1000000 ∧ P ρ (σ.set la (.list (xs ++ [w])))

section
variable {C : Ctx} {S : Sc} {d : Nat}

theorem simTests_nil : SimTests C S d [] yes := by
  constructor
  intro A env s μ ρ σ P Q E p f k
  show wpAny _ _ (forIn [] true _) _ _ _
  rw [List.forIn_nil]
  exact wpAny_pure (k true σ μ s.heap s.toks p.r (Nxt.refl ..) f)

theorem simTests_one {c : Expr} {F : FB} (hc : SimB C S d c F) : SimTests C S d [c] F := by
  constructor
  intro A env s μ ρ σ P Q E p f k
  show wpAny _ _ (forIn [c] true _) _ _ _
  rw [List.forIn_cons]
  simp only [if_true]
  refine wpAny_bind (wpAny_bind (wpAny_mono (hc.run p f) (fun b s' h => ?_) fun zz1 zz2 e => e))
  obtain ⟨σ', μ', h', t', rfl, p', x, q⟩ := h
  refine wpAny_pure ?_
  show wpAny _ _ (forIn [] b _) _ _ _
  rw [List.forIn_nil]
  exact wpAny_pure (k b σ' μ' h' t' p'.r x q)

theorem simEmit {la : Nat} {acc : Value} {elt : Expr} {fe : FE} (he : SimE C S d elt fe) : SimA C S d la acc (fun env => (do let _ ← call (.builtin "list.append") [acc, ← eval elt env])) (emit la fe) := by
  constructor
  intro A env s μ ρ σ P Q E p hla hacc hf k
  refine wpAny_bind (wpAny_mono (he.run p hf) (fun u s' h => ?_) fun zz1 zz2 e => e)
  obtain ⟨v, σ', μ', h', t', rfl, p', x, r, xs, e, hs, q⟩ := h
  have hm : μ' la = μ la := x.mu la hla
  refine wpAny_bind (simN_append (d := d) A _ μ' σ' [.ref la, v] [acc, u] (fun w σ2 => P ρ σ2) _ _ p.a p'.r ?_ ⟨la, xs, v, rfl, e, hs, q⟩ ?_)
  · rw [hacc, ← hm]
    exact .cons _ _ _ _ (.ref la (Nat.lt_of_lt_of_le hla x.nle)) (.cons _ _ _ _ r .nil)
  · intro w u' σ2 μ2 h2 t2 R2 N2 r2 q2
    exact wpAny_pure (k ρ σ2 μ2 h2 t2 R2 ((x.trans N2).toOwn _) (p'.f.nxt N2 (fun z => z) fun zz1 zz2 zz3 z => z) q2)

/-- the loop of one clause -/
theorem compCore {elt : Expr} {gens : List Comprehension} {scope : Scope} {pos q : Pos} {dep : Nat} {x : Str} {px : Pos} {ifs : List Expr} {act : Env → Sem Unit} {i la : Nat} {acc : Value}
    {own : List Addr} {I : Addr} {vs : List AV} {okA : St → Prop} {ok It Mid} {ft : FB} {fa : FA}
    (hturn : ∀ it env, compTurn (.ListComp elt gens scope pos) dep it acc env = (do
        standAt q
        match ← pyNext it with
        | none => pure (.done .next)
        | some v =>
          letOwnedTupleGo (.Name x px) it v
          assign (.Name x px) env v
          let mut ok := true
          for c in ifs do
            if ok then ok ← isTrue c env (eval c env)
          if ok then
            act env
          again (.compLoop (.ListComp elt gens scope pos) dep it acc env)))
    (Sr : Src C (.Name x px) own I vs okA ok It Mid) (hx : (x, i, false) ∈ S.vars) (hT : SimTests C S d ifs ft) (hA : SimA C S d la acc act fa)
    {A : Around} {env : Env} {s : Shared} {μ : Nat → Addr} {ρ : Rho} {σ : St} {P : Rho → St → Prop} {R : Result → Shared → Prop}
    (p : Pt C S d A env s μ ρ σ) (O : OwnOk C env own σ.n μ s.heap) (hla : la < σ.n) (hacc : acc = .ref (μ la)) (hok : ok μ σ s.heap) (hit : It 0 s.heap) (hf : compL i ft fa okA vs ρ σ P)
    (k : ∀ ρ' σ' μ' h' t', Rel C μ' σ' h' → Nxt σ.n μ s.heap σ'.n μ' h' (fun a => a ∈ own ∨ a = env.locals) → Frm C S env σ'.n μ' ρ' h' → P ρ' σ' → R (.ok .next) { s with heap := h', toks := t' }) :
    codeAny (model C.prog C.w) A (.compLoop (.ListComp elt gens scope pos) dep (.ref I) acc env) R s := by
  have hu : A.units + 30 < cLine := by have := p.a.room; (first | lia | omega)
  refine codeAny_loop rfl
    (fun m s' => ∃ j h' t' ρ' σ' μ', s' = { s with heap := h', toks := t' } ∧ Pt C S d A env { s with heap := h', toks := t' } μ' ρ' σ' ∧ Nxt σ.n μ s.heap σ'.n μ' h' (fun a => a ∈ own ∨ a = env.locals) ∧ OwnOk C env own σ'.n μ' h' ∧ ok μ' σ' h' ∧ It j h' ∧
      compL i ft fa okA (vs.drop j) ρ' σ' P ∧ j ≤ vs.length ∧ m = vs.length + 1 - j) ?_ (vs.length + 1) ⟨0, s.heap, s.toks, ρ, σ, μ, rfl, p, Nxt.refl .., O, hok, hit, hf, Nat.zero_le _, rfl⟩
  rintro m s' ⟨j, h', t', ρ', σ', μ', rfl, p', N', O', hok', hit', hf', hj, rfl⟩
  show wpAny _ A ((compTurn (.ListComp elt gens scope pos) dep (.ref I) acc env).onRaise (fun x => do noteFrame x env; theTreesLotGoes x)) _ _ _
  refine wpAny_noted ?_
  rw [hturn]
  refine wpAny_bind (wpAny_standAt (wpAny_bind ?_))
  by_cases hlt : j < vs.length
  · have hv : vs[j]? = some vs[j] := List.getElem?_eq_getElem hlt
    rw [List.drop_eq_getElem_cons hlt] at hf'
    refine withSize (Sr.item A j μ' σ' _ vs[j] _ _ p.a.hd hu p'.r hok' hit' hv fun u h1 t1 r1 hm1 hl1 hk1 hs1 => ?_)
    obtain ⟨R1, N1⟩ := ownStep p'.r O' (Sr.live j h' hit') hk1 hs1
    have O1 := O'.nxt N1
    refine wpAny_bind (withSize (Sr.go A j u _ _ _ hm1 fun h2 hit2 hk2 hs2 => ?_))
    obtain ⟨R2, N2⟩ := ownStep R1 O1 hl1 hk2 hs2
    have O2 := O1.nxt N2
    have N12 := N1.trans N2
    have F2 : Frm C S env σ'.n μ' ρ' h2 := p'.f.nxt N12 (fun z => O'.loc _ z rfl) fun y c hc z => O'.cel _ z y c hc rfl
    have p2 : Pt C S d A env { s with heap := h2, toks := t1 } μ' ρ' σ' := ⟨p.a, p.e, R2, F2⟩
    refine wpAny_bind (PyProof.Rows.assign_Name (storeVar (own := fun a => a = env.locals) p2 hx (r1.nxt N2) (fun zz1 => rfl) (fun z => nomatch z) fun h3 t3 R3 N3 F3 => ?_))
    have p3 : Pt C S d A env { s with heap := h3, toks := t3 } μ' (upd ρ' i (some vs[j])) σ' := ⟨p.a, p.e, R3, F3⟩
    have O3 := O2.nxt N3
    have okok := Sr.okof _ _ _ hok'
    have N13 : Nxt σ'.n μ' h' σ'.n μ' h3 (fun a => a ∈ own ∨ a = env.locals) := (N12.own fun a z => .inl z).trans (N3.own fun a z => .inr z)
    refine wpAny_bind (hT.go A env _ μ' _ σ' _ _ _ p3 hf' fun b σ4 μ4 h4 t4 R4 N4 q4 => ?_)
    have F4 := F3.nxt N4 (fun z => z) fun zz1 zz2 zz3 z => z
    have p4 : Pt C S d A env { s with heap := h4, toks := t4 } μ4 (upd ρ' i (some vs[j])) σ4 := ⟨p.a, p.e, R4, F4⟩
    have O4 := O3.nxt N4
    have N14 := N13.trans (N4.toOwn _)
    have again' : ∀ ρ5 σ5 μ5 h5 t5, Rel C μ5 σ5 h5 → Nxt σ'.n μ' h' σ5.n μ5 h5 (fun a => a ∈ own ∨ a = env.locals) → Nxt σ'.n μ' h3 σ5.n μ5 h5 (fun a => a = env.locals) → Frm C S env σ5.n μ5 ρ5 h5 → okA σ5 → compL i ft fa okA (vs.drop (j + 1)) ρ5 σ5 P →
        ∃ m', m' < vs.length + 1 - j ∧ ∃ j h' t' ρ' σ' μ', { s with heap := h5, toks := t5 } = { s with heap := h', toks := t' } ∧ Pt C S d A env { s with heap := h', toks := t' } μ' ρ' σ' ∧ Nxt σ.n μ s.heap σ'.n μ' h' (fun a => a ∈ own ∨ a = env.locals) ∧ OwnOk C env own σ'.n μ' h' ∧ ok μ' σ' h' ∧ It j h' ∧
          compL i ft fa okA (vs.drop j) ρ' σ' P ∧ j ≤ vs.length ∧ m' = vs.length + 1 - j := fun ρ5 σ5 μ5 h5 t5 R5 N15 N35 F5 hok5 hc5 =>
      ⟨vs.length + 1 - (j + 1), by (first | lia | omega), j + 1, h5, t5, ρ5, σ5, μ5, rfl, ⟨p.a, p.e, R5, F5⟩, N'.trans N15, O'.nxt N15, Sr.stab _ _ _ _ _ _ _ hok' N15 hok5,
        Sr.frame _ _ _ hit2 (fun b hb o e => by
          have e3 := N3.keep b o e (fun l hl => Ne.symm (O2.mu b hb l hl)) (O2.loc b hb)
          exact N35.keep b o e3 (fun l hl => Ne.symm (O3.mu b hb l hl)) (O3.loc b hb)), hc5, hlt, rfl⟩
    cases b with
    | false =>
      obtain ⟨hok5, hc5⟩ := q4.2 rfl
      exact wpAny_pure ⟨rfl, again' _ σ4 μ4 h4 t4 R4 N14 (N4.toOwn _) F4 hok5 hc5⟩
    | true =>
      have hla4 : la < σ4.n := Nat.lt_of_lt_of_le hla (Nat.le_trans N'.nle N14.nle)
      have hacc4 : acc = .ref (μ4 la) := by rw [hacc, (N'.trans N14).mu la hla]
      refine wpAny_bind (hA.go A env _ μ4 _ σ4 _ _ _ p4 hla4 hacc4 (q4.1 rfl) fun ρ5 σ5 μ5 h5 t5 R5 N5 F5 q5 => ?_)
      exact wpAny_pure ⟨rfl, again' ρ5 σ5 μ5 h5 t5 R5 (N14.trans (N5.own fun a z => .inr z)) ((N4.toOwn _).trans N5) F5 q5.1 q5.2⟩
  · have hie : j = vs.length := by (first | lia | omega)
    subst hie
    rw [List.drop_length] at hf'
    refine withSize (Sr.done A μ' σ' _ _ _ p.a.hd hu p'.r hok' hit' fun h1 t1 hk1 hs1 => ?_)
    obtain ⟨R1, N1⟩ := ownStep p'.r O' (Sr.live _ h' hit') hk1 hs1
    have F1 : Frm C S env σ'.n μ' ρ' h1 := p'.f.nxt N1 (fun z => O'.loc _ z rfl) fun y c hc z => O'.cel _ z y c hc rfl
    exact wpAny_pure (k ρ' σ' μ' h1 t1 R1 (N'.trans (N1.own fun a z => .inl z)) F1 hf')
end
end Mine
end

noncomputable section
open PySem PySem.W PyProof.Rows PySem.Calls
set_option Elab.async false
set_option maxRecDepth 100000
namespace Mine

theorem closure_cells {env : Env} : ∀ (names : List (Str × NameKind)) (acc : List (Str × Addr)), (∀ y, (y, NameKind.free) ∈ names → ∃ c, env.cells.lookup y = some c) → (∀ y c, acc.lookup y = some c → env.cells.lookup y = some c) →
    ∃ cl, (forIn (m := Sem) names acc fun x r => (if (x.2 == NameKind.free) = true then do let a ← cellOf env x.1; pure (ForInStep.yield ((x.1, a) :: r)) else pure (ForInStep.yield r))) = pure cl ∧
      (∀ y c, cl.lookup y = some c → env.cells.lookup y = some c) ∧ (∀ y, (y, NameKind.free) ∈ names ∨ (acc.lookup y).isSome = true → (cl.lookup y).isSome = true)
  | [], acc, _, ha => ⟨acc, rfl, ha, fun y h => h.elim (fun z => nomatch z) id⟩
  | (n, k) :: r, acc, hn, ha => by
    rw [List.forIn_cons]
    by_cases hk : k = .free
    · subst hk
      obtain ⟨c, hc⟩ := hn n (.head _)
      obtain ⟨cl, e, h1, h2⟩ := closure_cells r ((n, c) :: acc) (fun y hy => hn y (.tail _ hy)) (fun y c' hy => by
        rw [List.lookup_cons] at hy
        by_cases q : y = n
        · subst q; simp at hy; subst hy; exact hc
        · have : (y == n) = false := beq_eq_false_iff_ne.mpr q
          rw [this] at hy; exact ha y c' hy)
      refine ⟨cl, ?_, h1, fun y hy => h2 y ?_⟩
      · have hcell : cellOf env n = pure c := by unfold cellOf; rw [hc]
        simp only [beq_self_eq_true, if_true, hcell, pure_bind]
        exact e
      · rcases hy with hy | hy
        · cases hy with
          | head => right; simp
          | tail _ hy => exact .inl hy
        · right
          rw [List.lookup_cons]
          by_cases q : y = n
          · subst q; simp
          · have : (y == n) = false := beq_eq_false_iff_ne.mpr q
            rw [this]; exact hy
    · have hb : (k == NameKind.free) = false := by simpa using hk
      obtain ⟨cl, e, h1, h2⟩ := closure_cells r acc (fun y hy => hn y (.tail _ hy)) ha
      refine ⟨cl, ?_, h1, fun y hy => h2 y ?_⟩
      · simp only [hb, Bool.false_eq_true, if_false, pure_bind]
        exact e
      · rcases hy with hy | hy
        · cases hy with
          | head => exact absurd rfl hk
          | tail _ hy => exact .inl hy
        · exact .inr hy

theorem closureFor_cells {env : Env} {scope : Scope} (hn : ∀ y, (y, NameKind.free) ∈ scope.names → ∃ c, env.cells.lookup y = some c) :
    ∃ cl, closureFor scope env = pure cl ∧ (∀ y c, cl.lookup y = some c → env.cells.lookup y = some c) ∧ (∀ y, (y, NameKind.free) ∈ scope.names → (cl.lookup y).isSome = true) := by
  obtain ⟨cl, e, h1, h2⟩ := closure_cells (env := env) scope.names [] hn (fun y c h => by simp at h)
  refine ⟨cl, ?_, h1, fun y hy => h2 y (.inl hy)⟩
  unfold closureFor
  show (forIn scope.names [] _ >>= fun cs => pure cs) = _
  have e2 : (forIn (m := Sem) scope.names ([] : List (Str × Addr)) fun x r => match x with | (name, kind) => (if (kind == NameKind.free) = true then do let a ← cellOf env name; pure (ForInStep.yield ((name, a) :: r)) else pure (ForInStep.yield r))) = pure cl := e
  rw [show (forIn (m := Sem) scope.names ([] : List (Str × Addr)) _) = _ from e2]
  rfl

noncomputable def clr (sl : List Nat) (ρ : Rho) : Rho := fun j => if sl.contains j then none else ρ j

structure CompOk (S S' : Sc) (scope : Scope) (sl : List Nat) : Prop where
  ok : S'.Ok
  rel : ∀ env : Env, env.scope = S.scope → relabel scope env = S'.scope
  cap : ∀ y j, (y, j, true) ∈ S'.vars → (y, j, true) ∈ S.vars ∧ (y, NameKind.free) ∈ scope.names
  loc : ∀ y j, (y, j, false) ∈ S'.vars → sl.contains j = true
  free : ∀ y, (y, NameKind.free) ∈ scope.names → ∃ j, (y, j, true) ∈ S.vars
  cell : ∀ y ∈ scope.names, y.2 ≠ .cell
  kind : scope.kind = .function
  names : ∀ y ∈ scope.names, y.2 = .local → scope.names.lookup y.1 = some .local

section
variable {C : Ctx} {S S' : Sc} {d : Nat}

theorem compStartG {elt : Expr} {gens : List Comprehension} {scope : Scope} {pos : Pos} {dep : Nat} {it acc : Value} {env : Env} {A : Around} {R : Result → Shared → Prop} {s : Shared} {g : Comprehension}
    (hg : gens[dep]? = some g) (ha : g.is_async = 0)
    (h0 : codeAny (model C.prog C.w) A (.compLoop (.ListComp elt gens scope pos) dep it acc env) R s)
    (h : wpAny (model C.prog C.w) A (pyIter it) (fun it' s' => codeAny (model C.prog C.w) A (.compLoop (.ListComp elt gens scope pos) dep it' acc env) R s')
      (notedBy (model C.prog C.w) A env fun x s' => R (.error x) s') s) :
    codeAny (model C.prog C.w) A (.compStart (.ListComp elt gens scope pos) dep it acc env) R s := by
  refine codeAny_of_tree ?_
  show wpAny _ _ ((compStart (.ListComp elt gens scope pos) dep it acc env).onRaise (fun x => do noteFrame x env; standAt theWindowsPlace)) _ _ s
  refine wpAny_notedAt ?_
  unfold compStart
  have e1 : ((clausesOf (.ListComp elt gens scope pos))[dep]?).elim false (·.is_async != 0) = false := by
    show (gens[dep]?).elim false (·.is_async != 0) = false
    rw [hg]; simp [ha]
  rw [e1]
  simp only [Bool.false_eq_true, if_false]
  refine wpAny_bind (wpAny_askSetting (wpAny_ite ?_))
  split
  · first
      | exact wpAny_bind (wpAny_pure (wpAny_pure (And.intro rfl h0)))
      | exact wpAny_pure (And.intro rfl h0)
  · refine wpAny_bind (wpAny_rule ?_)
    have e2 : (clausesOf (.ListComp elt gens scope pos))[dep]? = some g := hg
    rw [e2]
    exact wpAny_bind (wpAny_standAt (wpAny_bind (wpAny_mono h (fun it' s' h' => wpAny_pure (And.intro rfl h')) fun zz1 zz2 x => x)))

/-- a comprehension's run, to its end -/
theorem compRun {elt iter : Expr} {rest : List Comprehension} {ifs : List Expr} {x : Str} {px : Pos} {scope : Scope} {pos q q' : Pos} {sl : List Nat} {i : Nat} {FI} {act : Value → Env → Sem Unit} {ft : FB} {fa : Nat → FA} {use : Option (Value → Sem Unit)}
    (K : CompOk S S' scope sl)
    (hturn : ∀ it acc env, compTurn (.ListComp elt (⟨.Name x px, iter, ifs, 0⟩ :: rest) scope pos) 0 it acc env = (do
        standAt q
        match ← pyNext it with
        | none => pure (.done .next)
        | some v =>
          letOwnedTupleGo (.Name x px) it v
          assign (.Name x px) env v
          let mut ok := true
          for c in ifs do
            if ok then ok ← isTrue c env (eval c env)
          if ok then
            act acc env
          again (.compLoop (.ListComp elt (⟨.Name x px, iter, ifs, 0⟩ :: rest) scope pos) 0 it acc env)))
    (hi : SimI C S d (.Name x px) iter FI) (hx : (x, i, false) ∈ S'.vars) (hT : SimTests C S' d ifs ft) (hA : ∀ la acc, SimA C S' d la acc (act acc) (fa la))
    {A : Around} {env : Env} {s : Shared} {μ : Nat → Addr} {ρ : Rho} {σ : St} {P : AV → St → Prop} {Q : Value → Shared → Prop} {E : Value → Shared → Prop} (p : Pt C S d A env s μ ρ σ)
    (hf : FI ρ σ fun vs ok σ1 => ok (σ1.push (.list [])) ∧ compL i ft (fa σ1.n) ok vs (clr sl ρ) (σ1.push (.list [])) (fun zz1 σ2 => P (.ref σ1.n) σ2))
    (hs : ∀ env x, foldedSetIterable iter env x = pure x)
    (hfin : ∀ σ2 μ2 h2 t2 (Cl : Addr) m u la, Rel C μ2 σ2 h2 → Nxt σ.n μ s.heap σ2.n μ2 h2 NoOwn → Frm C S env σ2.n μ2 ρ h2 → h2.Ns Cl m → (∀ l, l < σ2.n → μ2 l ≠ Cl) → s.heap.objs.size ≤ Cl → Cl ≠ env.locals → (∀ y c, env.cells.lookup y = some c → c ≠ Cl) →
      VRep C.h0 σ2.n μ2 h2 (.ref la) u → P (.ref la) σ2 → compPost (model C.prog C.w) A E use Q u Cl (.ok .next) { s with heap := h2, toks := t2 }) :
    wpAny (model C.prog C.w) A (comprehension (.ListComp elt (⟨.Name x px, iter, ifs, 0⟩ :: rest) scope pos) scope env q' (newList []) false (eval iter env) use) Q E s := by
  have hfree : ∀ y, (y, NameKind.free) ∈ scope.names → ∃ c, env.cells.lookup y = some c := fun y hy => by
    obtain ⟨j, hj⟩ := K.free y hy
    obtain ⟨c, _, hc, _⟩ := p.f.cel y j hj
    exact ⟨c, hc⟩
  obtain ⟨cl, hcl, hcl1, hcl2⟩ := closureFor_cells hfree
  refine wpAny_comprehension_free (use := use) rfl (hs env) hcl K.kind K.names ?_
  refine hi.go A env s μ ρ σ _ _ E p hf fun σ1 μ1 h1 t1 vs okA own I ok It Mid p1 N1 Sr O1 hown hok hit hf1 => ?_
  obtain ⟨hokA, hcomp⟩ := hf1
  obtain ⟨R2, N2, r2⟩ := new_list p1.r (vs := []) (us := []) .nil
  refine wpAny_newObj_type ?_
  refine wpAny_newFunctionEnv K.cell (by intro y hy; simp at hy) (fun h3 hn3 hs3 => ?_) K.kind
  dsimp only at hn3 hs3 ⊢
  have hh2 : ({ cls := .type "list", data := .seq ([] : List Value).toArray } : Obj) = { cls := .type "list", data := .seq #[] } := rfl
  generalize hH2 : h1.push { cls := .type "list", dict := none, data := .seq ([] : List Value).toArray } = H2 at hn3 hs3 R2 N2 r2 ⊢
  have hsz2 : H2.objs.size = h1.objs.size + 1 := by rw [← hH2, Heap.size_push]
  have h12 : h1.objs.size ≤ H2.objs.size := by rw [hsz2]; exact Nat.le_succ _
  have hk3 : ∀ a o, H2.get? a = some o → h3.get? a = some o := fun a o e => hs3.extBut a o (Nat.ne_of_lt (Heap.lt_size e)) (Heap.get?_push_of_some _ e)
  have hsz3 : H2.objs.size ≤ h3.objs.size := by rw [hs3.1, Heap.size_push]; (first | lia | omega)
  have R3 : Rel C (upd μ1 σ1.n h1.objs.size) (σ1.push (.list [])) h3 := R2.grow hsz3 hk3
  have N3 : Nxt σ1.n μ1 h1 (σ1.n + 1) (upd μ1 σ1.n h1.objs.size) h3 NoOwn := N2.trans (Nxt.grow NoOwn hsz3 hk3 _ _)
  have FE3 : Frm C S env (σ1.n + 1) (upd μ1 σ1.n h1.objs.size) ρ h3 := p1.f.nxt N3 (fun z => z) fun zz1 zz2 zz3 z => z
  let cenv : Env := compEnvC scope cl H2.objs.size env
  have hCl : ∀ y c, env.cells.lookup y = some c → c < h1.objs.size := fun y c hc => by
    obtain ⟨u, hu⟩ := p1.f.cellt y c hc
    exact hu.lt
  have hEl : env.locals < h1.objs.size := by obtain ⟨m, hn, _⟩ := p1.f.loc; exact hn.lt
  have FC : Frm C S' cenv (σ1.n + 1) (upd μ1 σ1.n h1.objs.size) (clr sl ρ) h3 := by
    refine ⟨⟨_, hn3, fun y j hy v e => ?_⟩, fun y j hy => ?_, fun l hl => ?_, fun y c hc l hl => ?_, fun y c hc => ?_, fun y z c h1 h2 => ?_, ?_, fun y c hc => ?_, fun y c hc => ?_⟩
    · have := K.loc y j hy
      simp only [clr, this, if_true] at e
      cases e
    · obtain ⟨hyS, hyf⟩ := K.cap y j hy
      obtain ⟨c, u', hc, hcell, hv⟩ := FE3.cel y j hyS
      obtain ⟨c', hc'⟩ := Option.isSome_iff_exists.mp (hcl2 y hyf)
      have hcc := hcl1 y c' hc'
      rw [hc] at hcc
      cases hcc
      refine ⟨c, u', hc', hcell, fun v e => hv v ?_⟩
      simp only [clr] at e
      split at e
      · cases e
      · exact e
    · have := R3.mulive (l := l) hl
      show upd μ1 σ1.n h1.objs.size l ≠ H2.objs.size
      have hlt : upd μ1 σ1.n h1.objs.size l < H2.objs.size := R2.mulive hl
      exact Nat.ne_of_lt hlt
    · exact FE3.celmu y c (hcl1 y c hc) l hl
    · show c ≠ H2.objs.size
      exact Nat.ne_of_lt (Nat.lt_of_lt_of_le (hCl y c (hcl1 y c hc)) h12)
    · exact FE3.celinj y z c (hcl1 y c h1) (hcl1 z c h2)
    · show C.h0.objs.size ≤ H2.objs.size
      have := p1.r.size
      show C.h0.objs.size ≤ H2.objs.size
      have h5 : C.h0.objs.size ≤ h1.objs.size := this
      (first | lia | omega)
    · exact FE3.celab y c (hcl1 y c hc)
    · exact FE3.cellt y c (hcl1 y c hc)
  have hes : env.scope = S.scope := p.e.scope
  have EC : EnvOk S' cenv := by
    refine ⟨K.rel env hes, K.ok.kind, p.e.glob, p.e.bi, K.ok.kinds, K.ok.uniq⟩
  have p3 : Pt C S' d A cenv { s with heap := h3, toks := t1 + ([] : List (Str × Value)).length } (upd μ1 σ1.n h1.objs.size) (clr sl ρ) (σ1.push (.list [])) := ⟨p.a, EC, R3, FC⟩
  have O3 : OwnOk C cenv own (σ1.push (.list [])).n (upd μ1 σ1.n h1.objs.size) h3 := by
    have O := O1.nxt N3
    refine ⟨O.ab, O.mu, fun b hb => ?_, fun b hb y c hc => O.cel b hb y c (hcl1 y c hc), O.lt⟩
    show b ≠ H2.objs.size
    exact Nat.ne_of_lt (Nat.lt_of_lt_of_le (O1.lt b hb) h12)
  have hit3 : It 0 h3 := Sr.frame _ _ _ hit fun b hb o e => N3.keep b o e (fun l hl => Ne.symm (O1.mu b hb l hl)) (fun z => z)
  have hok3 := Sr.stab _ _ _ _ _ _ _ hok N3 hokA
  have hla : upd μ1 σ1.n h1.objs.size σ1.n = h1.objs.size := by simp [upd]
  have loop : codeAny (model C.prog C.w) A (.compLoop (.ListComp elt (⟨.Name x px, iter, ifs, 0⟩ :: rest) scope pos) 0 (.ref I) (.ref h1.objs.size) cenv)
      (compPost (model C.prog C.w) A E use Q (.ref h1.objs.size) cenv.locals) { s with heap := h3, toks := t1 + ([] : List (Str × Value)).length } := by
    refine compCore (act := act (.ref h1.objs.size)) (fun it env => hturn it (.ref h1.objs.size) env) Sr hx hT (hA σ1.n (.ref h1.objs.size)) p3 O3 (by simp) (by rw [hla]) hok3 hit3 hcomp ?_
    intro ρ4 σ4 μ4 h4 t4 R4 N4 F4 q4
    have Z : Nxt σ.n μ s.heap σ4.n μ4 h4 NoOwn := by
      have X := ((N1.trans N3).own (own' := fun a => a ∈ own ∨ a = cenv.locals) fun zz1 z => z.elim).trans N4
      refine ⟨X.nle, X.mu, X.fresh, X.size, X.imm, fun a o e h1' zz1 => X.keep a o e h1' fun z => ?_⟩
      have hlt := Heap.lt_size e
      rcases z with z | z
      · exact absurd hlt (Nat.not_lt.mpr (hown a z))
      · have hz : a = H2.objs.size := z
        rw [hz] at hlt
        exact absurd hlt (Nat.not_lt.mpr (Nat.le_trans N1.size h12))
    have FE4 : Frm C S env σ4.n μ4 ρ h4 := p.f.nxt Z (fun z => z) fun zz1 zz2 zz3 z => z
    obtain ⟨m4, hn4, _⟩ := F4.loc
    have hal : μ4 σ1.n = h1.objs.size := by
      have := N4.mu σ1.n (by simp)
      rw [this, hla]
    have hlt4 : σ1.n < σ4.n := Nat.lt_of_lt_of_le (Nat.lt_succ_self _) N4.nle
    have r4 : VRep C.h0 σ4.n μ4 h4 (.ref σ1.n) (.ref h1.objs.size) := by
      have := VRep.ref (h0 := C.h0) (n := σ4.n) (μ := μ4) (h := h4) σ1.n hlt4
      rwa [hal] at this
    refine hfin σ4 μ4 h4 t4 cenv.locals m4 _ σ1.n R4 Z FE4 hn4 (fun l hl => F4.locmu l hl) ?_ ?_ ?_ r4 q4
    · show s.heap.objs.size ≤ H2.objs.size
      exact Nat.le_trans N1.size h12
    · show H2.objs.size ≠ env.locals
      exact Nat.ne_of_gt (Nat.lt_of_lt_of_le hEl h12)
    · intro y c hc
      show c ≠ H2.objs.size
      exact Nat.ne_of_lt (Nat.lt_of_lt_of_le (hCl y c hc) h12)
  exact compStartG (g := ⟨.Name x px, iter, ifs, 0⟩) rfl rfl loop (Sr.self A 0 _ _ _ hit3 loop)
end
end Mine
end

noncomputable section
open PySem PySem.W PyProof.Rows PySem.Calls
set_option Elab.async false
set_option maxRecDepth 100000
namespace Mine

section
variable {C : Ctx} {S S' : Sc} {d : Nat}

/-- what a comprehension gives -/
@[reducible] noncomputable def compF (FI : Rho → St → (List AV → (St → Prop) → St → Prop) → Prop) (i : Nat) (ft : FB) (fa : Nat → FA) (sl : List Nat) : FE :=
  fun ρ σ P => FI ρ σ fun vs ok σ1 => ok (σ1.push (.list [])) ∧ compL i ft (fa σ1.n) ok vs (clr sl ρ) (σ1.push (.list [])) (fun zz1 σ2 => P (.ref σ1.n) σ2)

noncomputable abbrev actE (elt : Expr) (acc : Value) (env : Env) : Sem Unit := do let _ ← call (.builtin "list.append") [acc, ← eval elt env]
noncomputable abbrev actN (elt : Expr) (gens : List Comprehension) (scope : Scope) (pos : Pos) (iter2 : Expr) (acc : Value) (env : Env) : Sem Unit := do
  let x ← eval iter2 env
  standAt iter2.pos
  let x ← foldedSetIterable iter2 env x
  let _ ← runOwn (.compStart (.ListComp elt gens scope pos) 1 (← holding [x] (pyIter x)) acc env) env

theorem turn1 (elt target iter : Expr) (ifs : List Expr) (scope : Scope) (pos : Pos) (it acc : Value) (env : Env) :
    compTurn (.ListComp elt [⟨target, iter, ifs, 0⟩] scope pos) 0 it acc env = (do
      standAt iter.pos
      match ← pyNext it with
      | none => pure (.done .next)
      | some v =>
        letOwnedTupleGo target it v
        assign target env v
        let mut ok := true
        for c in ifs do
          if ok then ok ← isTrue c env (eval c env)
        if ok then
          actE elt acc env
        again (.compLoop (.ListComp elt [⟨target, iter, ifs, 0⟩] scope pos) 0 it acc env)) := by rfl

theorem turn2a (elt target iter target2 iter2 : Expr) (ifs ifs2 : List Expr) (scope : Scope) (pos : Pos) (it acc : Value) (env : Env) :
    compTurn (.ListComp elt [⟨target, iter, ifs, 0⟩, ⟨target2, iter2, ifs2, 0⟩] scope pos) 0 it acc env = (do
      standAt iter.pos
      match ← pyNext it with
      | none => pure (.done .next)
      | some v =>
        letOwnedTupleGo target it v
        assign target env v
        let mut ok := true
        for c in ifs do
          if ok then ok ← isTrue c env (eval c env)
        if ok then
          actN elt [⟨target, iter, ifs, 0⟩, ⟨target2, iter2, ifs2, 0⟩] scope pos iter2 acc env
        again (.compLoop (.ListComp elt [⟨target, iter, ifs, 0⟩, ⟨target2, iter2, ifs2, 0⟩] scope pos) 0 it acc env)) := by
  unfold actN
  simp only [bind_assoc]
  rfl
theorem turn2b (elt target iter target2 iter2 : Expr) (ifs ifs2 : List Expr) (scope : Scope) (pos : Pos) (it acc : Value) (env : Env) :
    compTurn (.ListComp elt [⟨target, iter, ifs, 0⟩, ⟨target2, iter2, ifs2, 0⟩] scope pos) 1 it acc env = (do
      standAt iter2.pos
      match ← pyNext it with
      | none => pure (.done .next)
      | some v =>
        letOwnedTupleGo target2 it v
        assign target2 env v
        let mut ok := true
        for c in ifs2 do
          if ok then ok ← isTrue c env (eval c env)
        if ok then
          actE elt acc env
        again (.compLoop (.ListComp elt [⟨target, iter, ifs, 0⟩, ⟨target2, iter2, ifs2, 0⟩] scope pos) 1 it acc env)) := by rfl

/-- the second clause as the first one's act -/
noncomputable def nest (FI2 : Rho → St → (List AV → (St → Prop) → St → Prop) → Prop) (i2 : Nat) (ft2 : FB) (fa2 : FA) : FA := fun ρ σ P => FI2 ρ σ fun vs ok σ => compL i2 ft2 fa2 ok vs ρ σ P

theorem simNest {elt target iter iter2 : Expr} {ifs ifs2 : List Expr} {x2 : Str} {px2 : Pos} {scope : Scope} {pos : Pos} {la i2 : Nat} {acc : Value} {FI2} {ft2 : FB} {fe : FE}
    (hi : SimI C S d (.Name x2 px2) iter2 FI2) (hx : (x2, i2, false) ∈ S.vars) (hT : SimTests C S d ifs2 ft2) (he : SimE C S d elt fe) (hs : ∀ env x, foldedSetIterable iter2 env x = pure x := by intro zz1 zz2; rfl) :
    SimA C S d la acc (actN elt [⟨target, iter, ifs, 0⟩, ⟨.Name x2 px2, iter2, ifs2, 0⟩] scope pos iter2 acc) (nest FI2 i2 ft2 (emit la fe)) := by
  constructor
  intro A env s μ ρ σ P Q E p hla hacc hf k
  refine wpAny_bind (wpAny_mono (hi.go A env s μ ρ σ _ (fun it s2 => wpAny (model C.prog C.w) A (runOwn (.compStart (.ListComp elt [⟨target, iter, ifs, 0⟩, ⟨.Name x2 px2, iter2, ifs2, 0⟩] scope pos) 1 it acc env) env) (fun zz1 s3 => Q () s3) E s2) E p hf ?_)
    (fun x s1 h1 => wpAny_bind (wpAny_standAt (wpAny_bind (wpAny_of_eq (hs env x) (wpAny_bind (wpAny_holding (wpAny_mono h1 (fun it s2 h2 => wpAny_bind (wpAny_mono h2 (fun zz1 zz2 q => wpAny_pure q) fun zz1 zz2 e => e)) fun zz1 zz2 e => e))))))) fun zz1 zz2 e => e)
  intro σ1 μ1 h1 t1 vs okA own I ok It Mid p1 N1 Sr O1 hown hok hit hf1
  refine wpAny_runOwn ?_
  have loop : ∀ R : Result → Shared → Prop, (∀ s3, (fun zz1 s3 => Q () s3) () s3 → R (.ok .next) s3) → codeAny (model C.prog C.w) (A.mark none) (.compLoop (.ListComp elt [⟨target, iter, ifs, 0⟩, ⟨.Name x2 px2, iter2, ifs2, 0⟩] scope pos) 1 (.ref I) acc env) R { s with heap := h1, toks := t1 } := by
    intro R hR
    have hm : A.mark none = A := rfl
    rw [hm]
    refine compCore (act := actE elt acc) (fun it env => turn2b elt target iter (.Name x2 px2) iter2 ifs ifs2 scope pos it acc env) Sr hx hT (simEmit he) p1 O1 (Nat.lt_of_lt_of_le hla N1.nle) (by rw [hacc, N1.mu la hla]) hok hit hf1 ?_
    intro ρ4 σ4 μ4 h4 t4 R4 N4 F4 q4
    refine hR _ (k ρ4 σ4 μ4 h4 t4 R4 ?_ F4 q4)
    have X := (N1.own (own' := fun a => a ∈ own ∨ a = env.locals) fun zz1 z => z.elim).trans N4
    refine ⟨X.nle, X.mu, X.fresh, X.size, X.imm, fun a o e h1' h2' => X.keep a o e h1' fun z => ?_⟩
    rcases z with z | z
    · exact absurd (Heap.lt_size e) (Nat.not_lt.mpr (hown a z))
    · exact h2' z
  have lp := loop (fun r s' => match r with | .ok f => (fun zz1 s3 => Q () s3) f s' | .error e => cameBackBy (model C.prog C.w) A env E e s') (fun s3 h => h)
  exact compStartG (g := ⟨.Name x2 px2, iter2, ifs2, 0⟩) rfl rfl lp (Sr.self _ 0 _ _ _ hit lp)

theorem compEnd {A : Around} {env : Env} {s : Shared} {μ : Nat → Addr} {ρ : Rho} {σ : St} {P : AV → St → Prop} {Q : Value → Shared → Prop} {E : Value → Shared → Prop} (g : GoV C s μ σ P Q) :
    ∀ σ2 μ2 h2 t2 (Cl : Addr) m u la, Rel C μ2 σ2 h2 → Nxt σ.n μ s.heap σ2.n μ2 h2 NoOwn → Frm C S env σ2.n μ2 ρ h2 → h2.Ns Cl m → (∀ l, l < σ2.n → μ2 l ≠ Cl) → s.heap.objs.size ≤ Cl → Cl ≠ env.locals → (∀ y c, env.cells.lookup y = some c → c ≠ Cl) →
      VRep C.h0 σ2.n μ2 h2 (.ref la) u → P (.ref la) σ2 → C.h0.objs.size ≤ s.heap.objs.size → compPost (model C.prog C.w) A E none Q u Cl (.ok .next) { s with heap := h2, toks := t2 } := by
  intro σ2 μ2 h2 t2 Cl m u la R2 N2 F2 hn hmu hCl _ _ r q hb
  refine ⟨m, hn, fun h3 hs => ?_⟩
  obtain ⟨ol, el, il⟩ := ns_notImm hn
  have R3 := R2.other hs hmu (Nat.le_trans hb hCl) el il
  have N3 : Nxt σ2.n μ2 h2 σ2.n μ2 h3 (fun a => a = Cl) := Nxt.other (fun a => a = Cl) hs rfl el il σ2.n μ2
  refine g (.ref la) u σ2 μ2 h3 t2 R3 ?_ (r.nxt N3) q
  have X := (N2.own (own' := fun a => a = Cl) fun zz1 z => z.elim).trans N3
  exact ⟨X.nle, X.mu, X.fresh, X.size, X.imm, fun a o e h1' zz1 => X.keep a o e h1' fun z => absurd (Heap.lt_size e) (Nat.not_lt.mpr (z ▸ hCl))⟩

theorem simComp1 {elt iter : Expr} {ifs : List Expr} {x : Str} {px : Pos} {scope : Scope} {pos : Pos} {sl : List Nat} {i : Nat} {FI} {ft : FB} {fe : FE} (K : CompOk S S' scope sl)
    (hi : SimI C S d (.Name x px) iter FI) (hx : (x, i, false) ∈ S'.vars) (hT : SimTests C S' d ifs ft) (he : SimE C S' d elt fe) (hs : ∀ env x, foldedSetIterable iter env x = pure x := by intro zz1 zz2; rfl) :
    SimE C S d (.ListComp elt [⟨.Name x px, iter, ifs, 0⟩] scope pos) (compF FI i ft (fun la => emit la fe) sl) := by
  constructor
  intro A env s μ ρ σ P Q E p hf g
  rw [eval_ListComp]
  exact compRun (use := none) (act := actE elt) (fa := fun la => emit la fe) K (fun it acc env => turn1 elt (.Name x px) iter ifs scope pos it acc env) hi hx hT (fun la acc => simEmit he) p hf hs
    fun σ2 μ2 h2 t2 Cl m u la R2 N2 F2 hn hmu hCl h1 h3 r q => compEnd (E := E) g σ2 μ2 h2 t2 Cl m u la R2 N2 F2 hn hmu hCl h1 h3 r q p.r.size

theorem simComp2 {elt iter iter2 : Expr} {ifs ifs2 : List Expr} {x x2 : Str} {px px2 : Pos} {scope : Scope} {pos : Pos} {sl : List Nat} {i i2 : Nat} {FI FI2} {ft ft2 : FB} {fe : FE} (K : CompOk S S' scope sl)
    (hi : SimI C S d (.Name x px) iter FI) (hx : (x, i, false) ∈ S'.vars) (hT : SimTests C S' d ifs ft) (hi2 : SimI C S' d (.Name x2 px2) iter2 FI2) (hx2 : (x2, i2, false) ∈ S'.vars) (hT2 : SimTests C S' d ifs2 ft2)
    (he : SimE C S' d elt fe) (hs : ∀ env x, foldedSetIterable iter env x = pure x := by intro zz1 zz2; rfl) (hs2 : ∀ env x, foldedSetIterable iter2 env x = pure x := by intro zz1 zz2; rfl) :
    SimE C S d (.ListComp elt [⟨.Name x px, iter, ifs, 0⟩, ⟨.Name x2 px2, iter2, ifs2, 0⟩] scope pos) (compF FI i ft (fun la => nest FI2 i2 ft2 (emit la fe)) sl) := by
  constructor
  intro A env s μ ρ σ P Q E p hf g
  rw [eval_ListComp]
  exact compRun (use := none) (act := actN elt [⟨.Name x px, iter, ifs, 0⟩, ⟨.Name x2 px2, iter2, ifs2, 0⟩] scope pos iter2) (fa := fun la => nest FI2 i2 ft2 (emit la fe)) K
    (fun it acc env => turn2a elt (.Name x px) iter (.Name x2 px2) iter2 ifs ifs2 scope pos it acc env) hi hx hT (fun la acc => simNest hi2 hx2 hT2 he hs2) p hf hs
    fun σ2 μ2 h2 t2 Cl m u la R2 N2 F2 hn hmu hCl h1 h3 r q => compEnd (E := E) g σ2 μ2 h2 t2 Cl m u la R2 N2 F2 hn hmu hCl h1 h3 r q p.r.size

/-- x = [..], where the machine stores before it lets the comprehension's own names go -/
theorem useEnd {A : Around} {env : Env} {s : Shared} {μ : Nat → Addr} {ρ : Rho} {σ : St} {P : Fl → Rho → St → Prop} {Q : Flow → Shared → Prop} {E : Value → Shared → Prop} {y : Str} {py : Pos} {j : Nat} (hy : (y, j, false) ∈ S.vars) (p : Pt C S d A env s μ ρ σ)
    (g : GoS C S env s μ σ P Q) :
    ∀ σ2 μ2 h2 t2 (Cl : Addr) m u la, Rel C μ2 σ2 h2 → Nxt σ.n μ s.heap σ2.n μ2 h2 NoOwn → Frm C S env σ2.n μ2 ρ h2 → h2.Ns Cl m → (∀ l, l < σ2.n → μ2 l ≠ Cl) → s.heap.objs.size ≤ Cl → Cl ≠ env.locals → (∀ y c, env.cells.lookup y = some c → c ≠ Cl) →
      VRep C.h0 σ2.n μ2 h2 (.ref la) u → P .next (upd ρ j (some (.ref la))) σ2 → compPost (model C.prog C.w) A E (some (assign (.Name y py) env)) (fun zz1 s' => Q .next s') u Cl (.ok .next) { s with heap := h2, toks := t2 } := by
  intro σ2 μ2 h2 t2 Cl m u la R2 N2 F2 hn hmu hCl hne hcell r q
  have p2 : Pt C S d A env { s with heap := h2, toks := t2 } μ2 ρ σ2 := ⟨p.a, p.e, R2, F2⟩
  show wpAny _ A (assign (.Name y py) env u) _ _ _
  refine PyProof.Rows.assign_Name (storeVar (own := fun a => a = env.locals) p2 hy r (fun zz1 => rfl) (fun z => nomatch z) fun h3 t3 R3 N3 F3 => ?_)
  have hn3 : h3.Ns Cl m := by
    obtain ⟨o, es, ep, e, rr⟩ := hn
    exact ⟨o, es, ep, N3.keep _ _ e (fun l hl => Ne.symm (hmu l hl)) hne, rr⟩
  refine ⟨m, hn3, fun h4 hs => ?_⟩
  obtain ⟨ol, el, il⟩ := ns_notImm hn3
  have hb : C.h0.objs.size ≤ Cl := Nat.le_trans p.r.size hCl
  have R4 := R3.other hs hmu hb el il
  have N4 : Nxt σ2.n μ2 h3 σ2.n μ2 h4 (fun a => a = Cl) := Nxt.other (fun a => a = Cl) hs rfl el il σ2.n μ2
  have F4 := F3.nxt N4 (fun z => hne z.symm) fun y c hc z => hcell y c hc z
  refine g .next .next _ σ2 μ2 h4 t3 R4 ?_ F4 .next q
  have X := ((N2.own (own' := fun a => a = Cl ∨ ownOf env a) fun zz1 z => z.elim).trans (N3.own fun a z => .inr (.inl z))).trans (N4.own fun a z => .inl z)
  exact ⟨X.nle, X.mu, X.fresh, X.size, X.imm, fun a o e h1' h2' => X.keep a o e h1' fun z => by
    rcases z with z | z
    · exact absurd (Heap.lt_size e) (Nat.not_lt.mpr (z ▸ hCl))
    · exact h2' z⟩

theorem simUse1 {elt iter : Expr} {ifs : List Expr} {x y : Str} {px py : Pos} {scope : Scope} {pos spos : Pos} {sl : List Nat} {i j : Nat} {FI} {ft : FB} {fe : FE} (K : CompOk S S' scope sl)
    (hi : SimI C S d (.Name x px) iter FI) (hx : (x, i, false) ∈ S'.vars) (hT : SimTests C S' d ifs ft) (he : SimE C S' d elt fe) (hy : (y, j, false) ∈ S.vars)
    (hsw : ∀ env : Env, env.scope = S.scope → swapsWith (.ListComp elt [⟨.Name x px, iter, ifs, 0⟩] scope pos) (some (.Name y py)) spos.line env = pure true)
    (hs : ∀ env x, foldedSetIterable iter env x = pure x := by intro zz1 zz2; rfl) :
    SimS C S d (.Assign [.Name y py] (.ListComp elt [⟨.Name x px, iter, ifs, 0⟩] scope pos) spos) (Sx.assign j (compF FI i ft (fun la => emit la fe) sl)) := by
  constructor
  intro A env s μ ρ σ P Q E p hf g
  rw [exec_Assign_Name_used _ _ _ _ (hsw env p.e.scope)]
  refine wpAny_bind (wpAny_standAt (wpAny_bind ?_))
  show wpAny _ A (do let _ ← comprehension (.ListComp elt [⟨.Name x px, iter, ifs, 0⟩] scope pos) scope env _ (newList []) false (eval iter env) (some (assign (.Name y py) env))) _ _ s
  refine wpAny_bind (wpAny_mono (compRun (use := some (assign (.Name y py) env)) (Q := fun zz1 s' => Q .next s') (P := fun v σ2 => P .next (upd ρ j (some v)) σ2) (act := actE elt) (fa := fun la => emit la fe) K
    (fun it acc env => turn1 elt (.Name x px) iter ifs scope pos it acc env) hi hx hT (fun la acc => simEmit he) p hf hs
    fun σ2 μ2 h2 t2 Cl m u la R2 N2 F2 hn hmu hCl h1 h3 r q => useEnd hy p g σ2 μ2 h2 t2 Cl m u la R2 N2 F2 hn hmu hCl h1 h3 r q) (fun zz1 s' hq => wpAny_pure (wpAny_pure hq)) fun zz1 zz2 e => e)

theorem simUse2 {elt iter iter2 : Expr} {ifs ifs2 : List Expr} {x x2 y : Str} {px px2 py : Pos} {scope : Scope} {pos spos : Pos} {sl : List Nat} {i i2 j : Nat} {FI FI2} {ft ft2 : FB} {fe : FE} (K : CompOk S S' scope sl)
    (hi : SimI C S d (.Name x px) iter FI) (hx : (x, i, false) ∈ S'.vars) (hT : SimTests C S' d ifs ft) (hi2 : SimI C S' d (.Name x2 px2) iter2 FI2) (hx2 : (x2, i2, false) ∈ S'.vars) (hT2 : SimTests C S' d ifs2 ft2)
    (he : SimE C S' d elt fe) (hy : (y, j, false) ∈ S.vars)
    (hsw : ∀ env : Env, env.scope = S.scope → swapsWith (.ListComp elt [⟨.Name x px, iter, ifs, 0⟩, ⟨.Name x2 px2, iter2, ifs2, 0⟩] scope pos) (some (.Name y py)) spos.line env = pure true)
    (hs : ∀ env x, foldedSetIterable iter env x = pure x := by intro zz1 zz2; rfl) (hs2 : ∀ env x, foldedSetIterable iter2 env x = pure x := by intro zz1 zz2; rfl) :
    SimS C S d (.Assign [.Name y py] (.ListComp elt [⟨.Name x px, iter, ifs, 0⟩, ⟨.Name x2 px2, iter2, ifs2, 0⟩] scope pos) spos) (Sx.assign j (compF FI i ft (fun la => nest FI2 i2 ft2 (emit la fe)) sl)) := by
  constructor
  intro A env s μ ρ σ P Q E p hf g
  rw [exec_Assign_Name_used _ _ _ _ (hsw env p.e.scope)]
  refine wpAny_bind (wpAny_standAt (wpAny_bind ?_))
  show wpAny _ A (do let _ ← comprehension (.ListComp elt [⟨.Name x px, iter, ifs, 0⟩, ⟨.Name x2 px2, iter2, ifs2, 0⟩] scope pos) scope env _ (newList []) false (eval iter env) (some (assign (.Name y py) env))) _ _ s
  refine wpAny_bind (wpAny_mono (compRun (use := some (assign (.Name y py) env)) (Q := fun zz1 s' => Q .next s') (P := fun v σ2 => P .next (upd ρ j (some v)) σ2) (act := actN elt [⟨.Name x px, iter, ifs, 0⟩, ⟨.Name x2 px2, iter2, ifs2, 0⟩] scope pos iter2) (fa := fun la => nest FI2 i2 ft2 (emit la fe)) K
    (fun it acc env => turn2a elt (.Name x px) iter (.Name x2 px2) iter2 ifs ifs2 scope pos it acc env) hi hx hT (fun la acc => simNest hi2 hx2 hT2 he hs2) p hf hs
    fun σ2 μ2 h2 t2 Cl m u la R2 N2 F2 hn hmu hCl h1 h3 r q => useEnd hy p g σ2 μ2 h2 t2 Cl m u la R2 N2 F2 hn hmu hCl h1 h3 r q) (fun zz1 s' hq => wpAny_pure (wpAny_pure hq)) fun zz1 zz2 e => e)
end
end Mine
end

noncomputable section
open PySem PySem.W PyProof.Rows PySem.Calls PySem.Spec
set_option Elab.async false
set_option maxRecDepth 100000
namespace Mine

/-! ### ints -/
noncomputable def gInt2 (f : Int → Int → Int) (ok : Int → Int → Prop) : F2 := fun v w σ P => ∃ a b, v = .int a ∧ w = .int b ∧ ok a b ∧ P (.int (f a b)) σ
noncomputable def gCmp (f : Int → Int → Bool) : F2 := fun v w σ P => ∃ a b, v = .int a ∧ w = .int b ∧ P (.bool (f a b)) σ

section
variable {C : Ctx} {S : Sc} {d : Nat}

theorem sim2_int {t : Value → Value → Sem Value} {f : Int → Int → Int} {ok : Int → Int → Prop}
    (h : ∀ (A : Around) (s : Shared) (a b : Int) (x y : Tok) (Q : Value → Shared → Prop) (E : Value → Shared → Prop), ok a b → Q (.int (f a b) s.toks) { s with toks := s.toks + 1 } → wpAny (model C.prog C.w) A (t (.int a x) (.int b y)) Q E s) :
    Sim2 C d t (gInt2 f ok) := by
  intro A s μ σ v w u x P Q E a R r rw hg g
  obtain ⟨i, j, rfl, rfl, hok, q⟩ := hg
  cases r
  cases rw
  exact h A s i j _ _ Q E hok (g.same R (.int _ _) q _)
theorem sim2_cmp {t : Value → Value → Sem Value} {f : Int → Int → Bool}
    (h : ∀ (A : Around) (s : Shared) (a b : Int) (x y : Tok) (Q : Value → Shared → Prop) (E : Value → Shared → Prop), Q (.bool (f a b)) s → wpAny (model C.prog C.w) A (t (.int a x) (.int b y)) Q E s) :
    Sim2 C d t (gCmp f) := by
  intro A s μ σ v w u x P Q E a R r rw hg g
  obtain ⟨i, j, rfl, rfl, q⟩ := hg
  cases r
  cases rw
  exact h A s i j _ _ Q E (g.same R (.bool _) q s.toks)

noncomputable def ok0 : Int → Int → Prop := fun zz1 zz2 => True
noncomputable def gAddI : F2 := gInt2 (fun a b => a + b) ok0
noncomputable def gSub : F2 := gInt2 (fun a b => a - b) ok0
noncomputable def gMul : F2 := gInt2 (fun a b => a * b) (fun a zz1 => -1000 < a ∧ a < 1000)
noncomputable def gDiv : F2 := gInt2 (fun a b => a.fdiv b) (fun zz1 b => 0 < b ∧ b < 1000)
noncomputable def gMod : F2 := gInt2 (fun a b => a.fmod b) (fun zz1 b => b ≠ 0)
noncomputable def gPow : F2 := gInt2 (fun a b => a ^ b.toNat) (fun a b => a = 10 ∧ b = 34)
theorem sim_sub : Sim2 C d (binaryOp .Sub) gSub := sim2_int fun A s a b x y Q E zz1 h => PyProof.Rows.sub_int h
theorem sim_mul : Sim2 C d (binaryOp .Mult) gMul := sim2_int fun A s a b x y Q E ho h => PyProof.Rows.mul_int h (IntMulOk.of_left (intBits_le_64 (by (first | lia | omega)) (by (first | lia | omega))))
theorem sim_div : Sim2 C d (binaryOp .FloorDiv) gDiv := sim2_int fun A s a b x y Q E ho h => PyProof.Rows.floordiv_int (by (first | lia | omega)) h (.inl (PyProof.noPylong_small (by (first | lia | omega))))
theorem sim_mod : Sim2 C d (binaryOp .Mod) gMod := sim2_int fun A s a b x y Q E ho h => PyProof.Rows.mod_int ho h
theorem sim_pow : Sim2 C d (binaryOp .Pow) gPow := sim2_int fun A s a b x y Q E ho h => by
  obtain ⟨rfl, rfl⟩ := ho
  exact PyProof.Rows.pow_int (by decide) (by decide +kernel) h

noncomputable def gLt : F2 := gCmp (fun a b => decide (a < b))
noncomputable def gLe : F2 := gCmp (fun a b => decide (a ≤ b))
noncomputable def gGt : F2 := gCmp (fun a b => decide (b < a))
noncomputable def gGe : F2 := gCmp (fun a b => decide (b ≤ a))
theorem sim_lt : Sim2 C d (compareOp .Lt) gLt := sim2_cmp fun A s a b x y Q E h => PyProof.Rows.lt_int h
theorem sim_gt : Sim2 C d (compareOp .Gt) gGt := sim2_cmp fun A s a b x y Q E h => PyProof.Rows.gt_int h
theorem sim_le : Sim2 C d (compareOp .LtE) gLe := sim2_cmp fun A s a b x y Q E h => PySem.P.le_int h
theorem sim_ge : Sim2 C d (compareOp .GtE) gGe := sim2_cmp fun A s a b x y Q E h => PySem.P.ge_int h

/-! ### equality -/
mutual
inductive Dat (σ : St) : AV → PyData → Prop
  | int (i) : Dat σ (.int i) (.int i)
  | tup (vs ds) : Dats σ vs ds → Dat σ (.tup vs) (.tuple ds)
  | list (l vs ds) : σ.obj l = some (.list vs) → Dats σ vs ds → Dat σ (.ref l) (.list ds)
inductive Dats (σ : St) : List AV → List PyData → Prop
  | nil : Dats σ [] []
  | cons (v vs e es) : Dat σ v e → Dats σ vs es → Dats σ (v :: vs) (e :: es)
end

mutual
theorem Dat.reads {μ σ} {h : Heap} (R : Rel C μ σ h) : ∀ {v : AV} {e : PyData} {u : Value}, Dat σ v e → VRep C.h0 σ.n μ h v u → ∃ as, Reads h u e as
  | _, _, _, .int i, r => by cases r; exact ⟨_, .int i _⟩
  | _, _, _, .tup vs ds k, r => by
    cases r with | tup _ a items n e rr =>
    obtain ⟨as, z⟩ := Dats.reads R k rr
    exact ⟨_, .tuple e rfl rfl z⟩
  | _, _, _, .list l vs ds e k, r => by
    cases r
    obtain ⟨items, n, e', rr⟩ := R.rep e
    obtain ⟨as, z⟩ := Dats.reads R k rr
    exact ⟨_, .list e' rfl rfl z⟩
theorem Dats.reads {μ σ} {h : Heap} (R : Rel C μ σ h) : ∀ {vs : List AV} {es : List PyData} {us : List Value}, Dats σ vs es → VReps C.h0 σ.n μ h vs us → ∃ as, ReadsAll h us es as
  | _, _, _, .nil, r => by cases r; exact ⟨_, .nil⟩
  | _, _, _, .cons v vs e es k ks, r => by
    cases r with | cons _ _ u us r1 r2 =>
    obtain ⟨as, z⟩ := Dat.reads R k r1
    obtain ⟨bs, y⟩ := Dats.reads R ks r2
    exact ⟨_, .cons z y⟩
end

theorem dats_ints (σ : St) : ∀ ns : List Int, Dats σ (intsA ns) (ns.map PyData.int)
  | [] => .nil
  | n :: r => .cons _ _ _ _ (.int n) (dats_ints σ r)
end

/-- two values, and whether they are equal -/
inductive EqR (σ : St) : AV → AV → Bool → Prop
  | int (a b) : EqR σ (.int a) (.int b) (a == b)
  | bool (a b) : EqR σ (.bool a) (.bool b) (a == b)
  | str (a b) : EqR σ (.str a) (.str b) (a == b)
  | none : EqR σ .none .none true
  | noneD (l) : isDictS (.ref l) σ → EqR σ .none (.ref l) false
  | dNone (l) : isDictS (.ref l) σ → EqR σ (.ref l) .none false
  | dd (l l' k k' a b) : l ≠ l' → σ.obj l = some (.dS [(k, .tup (intsA a))]) → σ.obj l' = some (.dS [(k', .tup (intsA b))]) → EqR σ (.ref l) (.ref l') (decide (k = k' ∧ a = b))
  | dat (v w da db) : Dat σ v da → Dat σ w db → SeqAt.shaped da = true → SeqAt.shaped db = true → SeqAt.noMix da db = true → EqR σ v w (same da db)

noncomputable def gEq : F2 := fun v w σ P => ∃ t, EqR σ v w t ∧ P (.bool t) σ
theorem EqR.tints (σ : St) (a b : List Int) : EqR σ (.tup (intsA a)) (.tup (intsA b)) (decide (a = b)) := by
  have h := EqR.dat (σ := σ) (.tup (intsA a)) (.tup (intsA b)) _ _ (.tup _ _ (dats_ints σ a)) (.tup _ _ (dats_ints σ b)) ?_ ?_ ?_
  · simp only [PySem.Spec.same] at h
    rwa [same_ints] at h
  · have := shaped_ints a
    exact this
  · exact shaped_ints b
  · simp only [SeqAt.noMix]; exact noMix_ints a b
theorem EqR.lints {σ : St} {l l' : Nat} {a b : List Int} (e : σ.obj l = some (.list (intsA a))) (e' : σ.obj l' = some (.list (intsA b))) : EqR σ (.ref l) (.ref l') (decide (a = b)) := by
  have h := EqR.dat (σ := σ) (.ref l) (.ref l') _ _ (.list _ _ _ e (dats_ints σ a)) (.list _ _ _ e' (dats_ints σ b)) (shaped_ints a) (shaped_ints b) ?_
  · simp only [PySem.Spec.same] at h
    rwa [same_ints] at h
  · simp only [SeqAt.noMix]; exact noMix_ints a b

/-- rows of ints -/
inductive Rows (σ : St) : List AV → List (List Int) → Prop
  | nil : Rows σ [] []
  | cons (l vs ns nss) : σ.obj l = some (.list (intsA ns)) → Rows σ vs nss → Rows σ (.ref l :: vs) (ns :: nss)
noncomputable def rowsD (nss : List (List Int)) : List PyData := nss.map fun ns => .list (ns.map PyData.int)
theorem Rows.dats {σ : St} {vs nss} (r : Rows σ vs nss) : Dats σ vs (rowsD nss) := by
  induction r with
  | nil => exact .nil
  | cons l vs ns nss e _ ih => exact .cons _ _ _ _ (.list _ _ _ e (dats_ints σ ns)) ih
theorem same_rows : ∀ ns ms : List (List Int), PySem.Spec.sameAll (rowsD ns) (rowsD ms) = decide (ns = ms)
  | [], [] => by simp [PySem.Spec.sameAll, rowsD]
  | [], _ :: _ => by simp [PySem.Spec.sameAll, rowsD]
  | _ :: _, [] => by simp [PySem.Spec.sameAll, rowsD]
  | n :: r, k :: q => by
    have ih := same_rows r q
    simp only [rowsD] at ih
    simp only [rowsD, List.map_cons, PySem.Spec.sameAll, PySem.Spec.same, same_ints, ih]
    by_cases h : n = k <;> simp [h]
theorem noMix_rows : ∀ ns ms : List (List Int), SeqAt.noMixAll (rowsD ns) (rowsD ms) = true
  | [], [] => by simp [SeqAt.noMixAll, rowsD]
  | [], _ :: _ => by simp [SeqAt.noMixAll, rowsD]
  | _ :: _, [] => by simp [SeqAt.noMixAll, rowsD]
  | n :: r, k :: q => by
    have ih := noMix_rows r q
    simp only [rowsD] at ih
    simp only [rowsD, List.map_cons, SeqAt.noMixAll, SeqAt.noMix, noMix_ints, ih, Bool.and_self]
theorem canLay_rows : ∀ ns : List (List Int), PyData.canLayAll0 (rowsD ns) = true
  | [] => by simp [PyData.canLayAll0, rowsD]
  | n :: r => by
    have ih := canLay_rows r
    simp only [rowsD] at ih
    simp only [rowsD, List.map_cons, PyData.canLayAll0, PyData.canLay0, canLayAll0_ints, ih, Bool.and_self]
theorem depth_rows : ∀ ns : List (List Int), PyData.depthAll (rowsD ns) ≤ 2
  | [] => by simp [PyData.depthAll, rowsD]
  | n :: r => by
    have ih := depth_rows r
    have := PySem.W.depthAll_ints n
    simp only [rowsD] at ih
    simp only [rowsD, List.map_cons, PyData.depthAll, PyData.depth]
    (first | lia | omega)
theorem shaped_rows (ns : List (List Int)) : SeqAt.shaped (.list (rowsD ns)) = true := by
  have h1 := depth_rows ns
  have h2 : PyData.depth (.list (rowsD ns)) ≤ 64 := by simp only [PyData.depth]; (first | lia | omega)
  show (PyData.canLay0 (.list (rowsD ns)) && decide (PyData.depth (.list (rowsD ns)) ≤ 64)) = true
  rw [Bool.and_eq_true]
  exact ⟨by simp only [PyData.canLay0]; exact canLay_rows ns, decide_eq_true h2⟩
theorem EqR.rows {σ : St} {l l' : Nat} {vs ws : List AV} {a b : List (List Int)} (e : σ.obj l = some (.list vs)) (e' : σ.obj l' = some (.list ws)) (ra : Rows σ vs a) (rb : Rows σ ws b) : EqR σ (.ref l) (.ref l') (decide (a = b)) := by
  have h := EqR.dat (σ := σ) (.ref l) (.ref l') _ _ (.list _ _ _ e ra.dats) (.list _ _ _ e' rb.dats) (shaped_rows a) (shaped_rows b) ?_
  · simp only [PySem.Spec.same] at h
    rwa [same_rows] at h
  · simp only [SeqAt.noMix]; exact noMix_rows a b

section
variable {C : Ctx} {S : Sc} {d : Nat}

theorem dict_eq_none {A : Around} {s : Shared} {l : Addr} {Q : Value → Shared → Prop} {E : Value → Shared → Prop} (h : s.TypeIs (.ref l) "dict") (q : Q .notImplemented s) :
    wpAny (model C.prog C.w) A (call (.builtin "dict.__eq__") [.ref l, .none]) Q E s := by
  refine wpAny_call_entry PySem.F.slot_dict_eq h PySem.F.entry_dict_eq ?_ (PySem.F.args_dict_eq_2 _ _)
  show wpAny _ _ (Builtin.Dict.dictSlotArgs "__eq__" ⟨[.ref l, .none], []⟩ >>= _) _ _ s
  refine wpAny_bind ?_
  unfold Builtin.Dict.dictSlotArgs
  refine wpAny_bind (wpAny_notOrdered_dict h ?_)
  show wpAny _ _ (pure (Value.ref l, Value.none)) _ _ s
  refine wpAny_pure ?_
  refine wpAny_bind (wpAny_isInstance (T := "NoneType") rfl PySem.F.sub_NoneType_dict ?_)
  simp only [Bool.not_false, if_true]
  refine wpAny_bind (wpAny_rule ?_)
  exact wpAny_pure (show ∃ v, Fin.done (Flow.ret Value.notImplemented) = Fin.done (Flow.ret v) ∧ Q v s from ⟨_, rfl, q⟩)

theorem dict_none_rc {A : Around} {s : Shared} {l : Addr} {Q : Value → Shared → Prop} {E : Value → Shared → Prop} (h : s.TypeIs (.ref l) "dict") (hu : A.units < cLine) (q : Q (.bool false) s) :
    wpAny (model C.prog C.w) A (compareOp .Eq (.ref l) .none) Q E s :=
  SeqAt.rc_eq_decline_or (k := false) h rfl (by decide) F.sub_NoneType_dict F.slot_dict_eq F.slot_NoneType_eq_refl
    (fun zz1 hq => dict_eq_none h hq)
    (fun zz1 hq => call_gives F.slot_NoneType_eq_refl rfl F.entry_NoneType_eq (F.args_NoneType_eq_2 _ _) (SeqAt.NoneType___eq___none_ref_0 l) hq)
    (fun zz1 hq => wpAny_of_eq (rfl : isSame (.ref l) .none = pure false) hq) (.inr hu) q
theorem none_dict_rc {A : Around} {s : Shared} {l : Addr} {Q : Value → Shared → Prop} {E : Value → Shared → Prop} (h : s.TypeIs (.ref l) "dict") (hu : A.units < cLine) (q : Q (.bool false) s) :
    wpAny (model C.prog C.w) A (compareOp .Eq .none (.ref l)) Q E s :=
  SeqAt.rc_eq_decline_or (k := false) rfl h (by decide) F.sub_dict_NoneType F.slot_NoneType_eq F.slot_dict_eq_refl
    (fun zz1 hq => call_gives F.slot_NoneType_eq rfl F.entry_NoneType_eq (F.args_NoneType_eq_2 _ _) (SeqAt.NoneType___eq___none_ref_0 l) hq)
    (fun zz1 hq => dict_eq_none h hq)
    (fun zz1 hq => wpAny_of_eq (rfl : isSame .none (.ref l) = pure false) hq) (.inr hu) q

theorem sim_eq : Sim2 C d (compareOp .Eq) gEq := by
  intro A s μ σ v w u x P Q E a R r rw hg g
  obtain ⟨t, e, q⟩ := hg
  have hun := a.un
  have hline : 200 < cLine := by decide
  cases e with
  | int i j => cases r; cases rw; exact PyProof.Rows.eq_int (g.same R (.bool _) q s.toks)
  | bool i j => cases r; cases rw; exact PyProof.Rows.eq_bool (g.same R (.bool _) q s.toks)
  | str i j => cases r; cases rw; exact PyProof.Rows.eq_str (g.same R (.bool _) q s.toks)
  | none => cases r; cases rw; exact PySem.EqNone.eq_none_none (g.same R (.bool _) q s.toks)
  | noneD l k =>
    have := (kind_dictS μ σ s _ x R rw k).1
    cases r; cases rw
    exact none_dict_rc this (by (first | lia | omega)) (g.same R (.bool _) q s.toks)
  | dNone l k =>
    have := (kind_dictS μ σ s _ u R r k).1
    cases r; cases rw
    exact dict_none_rc this (by (first | lia | omega)) (g.same R (.bool _) q s.toks)
  | dd l l' k k' i j hne e1 e2 =>
    cases r; cases rw
    obtain ⟨kus, hd, hp⟩ := R.rep e1
    obtain ⟨kus', hd', hp'⟩ := R.rep e2
    cases hp with | cons _ _ _ u1 _ r1 rr1 =>
    cases rr1
    cases hp' with | cons _ _ _ u2 _ r2 rr2 =>
    cases rr2
    obtain ⟨as, z1⟩ := Dat.reads R (.tup _ _ (dats_ints σ i)) r1
    obtain ⟨bs, z2⟩ := Dat.reads R (.tup _ _ (dats_ints σ j)) r2
    have he : SeqAt.EqAt A.in1 s u1 u2 (PyData.eqv _ _) := SeqAt.eqAt_reads _ _ A.in1 s u1 u2 as bs z1 z2 (SeqAt.canLay_of_shaped (shaped_ints i)) (SeqAt.canLay_of_shaped (shaped_ints j)) (by
      have h1 := PySem.W.depthAll_ints i
      simp only [PyData.depth]
      show A.units + 1 + min (PyData.depthAll _ + 1) _ < cLine
      (first | lia | omega))
    rw [← SeqAt.same_eq_eqv _ _ (by simp only [SeqAt.noMix]; exact noMix_ints i j)] at he
    simp only [PySem.Spec.same, same_ints] at he
    refine keq_eq (r := decide (k = k' ∧ i = j)) (R.notMods (R.lt _ _ e1)) (R.notMods (R.lt _ _ e2)) hd hd' (by (first | lia | omega)) (fun zz1 => ?_) (g.same R (.bool _) (by simpa using q) s.toks)
    by_cases hk : k = k'
    · subst hk
      have := KeqHits.hit (A := A.in1) (s := s) (kb := [(k, u2)]) (k := k) (v := u1) (r := []) (by simp [valueAt]) he .nil
      simpa using this
    · have := KeqHits.miss (A := A.in1) (s := s) (kb := [(k', u2)]) (k := k) (v := u1) (r := []) (by simp [valueAt, Ne.symm hk])
      simpa [hk] using this
  | dat _ _ da db h1 h2 h3 h4 h5 =>
    obtain ⟨as, z1⟩ := h1.reads R r
    obtain ⟨bs, z2⟩ := h2.reads R rw
    exact eq_dataH_same z1 z2 h3 h4 (by (first | lia | omega)) h5 (g.same R (.bool _) q s.toks)

/-- != of texts, and of tuples and lists of ints -/
noncomputable def gNe' : F2 := fun v w σ P => (∃ a b, v = .str a ∧ w = .str b ∧ P (.bool (a != b)) σ) ∨ (∃ a b, v = .bool a ∧ w = .bool b ∧ P (.bool (a != b)) σ) ∨
  ∃ da db, Dat σ v da ∧ Dat σ w db ∧ SeqAt.shaped da = true ∧ SeqAt.shaped db = true ∧ SeqAt.noMix da db = true ∧ P (.bool (!same da db)) σ
theorem sim_ne : Sim2 C d (compareOp .NotEq) gNe' := by
  intro A s μ σ v w u x P Q E a R r rw hg g
  have hun := a.un
  rcases hg with ⟨i, j, rfl, rfl, q⟩ | ⟨i, j, rfl, rfl, q⟩ | ⟨da, db, h1, h2, h3, h4, h5, q⟩
  · cases r; cases rw; exact PyProof.Rows.ne_str (g.same R (.bool _) q s.toks)
  · cases r; cases rw; exact PyProof.Rows.ne_bool (g.same R (.bool _) q s.toks)
  · obtain ⟨as, z1⟩ := h1.reads R r
    obtain ⟨bs, z2⟩ := h2.reads R rw
    exact ne_dataH_same z1 z2 h3 h4 (by (first | lia | omega)) h5 (g.same R (.bool _) q s.toks)
theorem gNe_tints {σ : St} {a b : List Int} {P : AV → St → Prop} (q : P (.bool (!decide (a = b))) σ) : gNe' (.tup (intsA a)) (.tup (intsA b)) σ P :=
  .inr (.inr ⟨_, _, .tup _ _ (dats_ints σ a), .tup _ _ (dats_ints σ b), shaped_ints a, shaped_ints b, by simp only [SeqAt.noMix]; exact noMix_ints a b, by simpa only [PySem.Spec.same, same_ints] using q⟩)
theorem gNe_lints {σ : St} {l l' : Nat} {a b : List Int} {P : AV → St → Prop} (e : σ.obj l = some (.list (intsA a))) (e' : σ.obj l' = some (.list (intsA b))) (q : P (.bool (!decide (a = b))) σ) : gNe' (.ref l) (.ref l') σ P :=
  .inr (.inr ⟨_, _, .list _ _ _ e (dats_ints σ a), .list _ _ _ e' (dats_ints σ b), shaped_ints a, shaped_ints b, by simp only [SeqAt.noMix]; exact noMix_ints a b, by simpa only [PySem.Spec.same, same_ints] using q⟩)
theorem gNe_rows {σ : St} {l l' : Nat} {vs ws : List AV} {a b : List (List Int)} {P : AV → St → Prop} (e : σ.obj l = some (.list vs)) (e' : σ.obj l' = some (.list ws)) (ra : Rows σ vs a) (rb : Rows σ ws b) (q : P (.bool (!decide (a = b))) σ) : gNe' (.ref l) (.ref l') σ P :=
  .inr (.inr ⟨_, _, .list _ _ _ e ra.dats, .list _ _ _ e' rb.dats, shaped_rows a, shaped_rows b, by simp only [SeqAt.noMix]; exact noMix_rows a b, by simpa only [PySem.Spec.same, same_rows] using q⟩)

/-- is not None -/
noncomputable def gIsNotNone : F2 := fun v w σ P => w = .none ∧ P (.bool (match v with | .none => false | _ => true)) σ
theorem sim_isNot : Sim2 C d (compareOp .IsNot) gIsNotNone := by
  intro A s μ σ v w u x P Q E a R r rw hg g
  obtain ⟨rfl, q⟩ := hg
  cases rw
  cases r with
  | none => exact wpAny_isNot_self rfl (g.same R (.bool _) q s.toks)
  | bool b => exact wpAny_isNot_other rfl (fun h => nomatch h) (g.same R (.bool _) q s.toks)
  | int i t => exact wpAny_isNot_other rfl (fun h => nomatch h) (g.same R (.bool _) q s.toks)
  | str i t => exact wpAny_isNot_other rfl (fun h => nomatch h) (g.same R (.bool _) q s.toks)
  | typ T => exact wpAny_isNot_other rfl (fun h => nomatch h) (g.same R (.bool _) q s.toks)
  | ref l => exact wpAny_isNot_other rfl (fun h => nomatch h) (g.same R (.bool _) q s.toks)
  | inst c l b => exact wpAny_isNot_other rfl (fun h => nomatch h) (g.same R (.bool _) q s.toks)
  | tup => exact wpAny_isNot_other rfl (fun h => nomatch h) (g.same R (.bool _) q s.toks)
  | rng => exact wpAny_isNot_other rfl (fun h => nomatch h) (g.same R (.bool _) q s.toks)
  | lst => exact wpAny_isNot_other rfl (fun h => nomatch h) (g.same R (.bool _) q s.toks)
end
end Mine
end

noncomputable section
open PySem PySem.W PyProof.Rows PySem.Calls PySem.Spec
set_option Elab.async false
set_option maxRecDepth 100000
namespace Mine

/-! ### + -/
noncomputable def gAdd : F2 := fun v w σ P => (∃ a b, v = .int a ∧ w = .int b ∧ P (.int (a + b)) σ) ∨
  (∃ l m xs ys, v = .ref l ∧ w = .ref m ∧ σ.obj l = some (.list xs) ∧ σ.obj m = some (.list ys) ∧ xs.length + ys.length ≤ 1000000 ∧ P (.ref σ.n) (σ.push (.list (xs ++ ys)))) ∨
  (∃ xs ys, v = .tup xs ∧ w = .tup ys ∧ xs ≠ [] ∧ ys ≠ [] ∧ xs.length + ys.length ≤ 1000000 ∧ P (.tup (xs ++ ys)) σ)

section
variable {C : Ctx} {S : Sc} {d : Nat}

theorem sim_add : Sim2 C d (binaryOp .Add) gAdd := by
  intro A s μ σ v w u x P Q E a R r rw hg g
  rcases hg with ⟨i, j, rfl, rfl, q⟩ | ⟨l, m, xs, ys, rfl, rfl, e1, e2, hz, q⟩ | ⟨xs, ys, rfl, rfl, h1, h2, hz, q⟩
  · cases r; cases rw; exact PyProof.Rows.add_int (g.same R (.int _ _) q _)
  · cases r; cases rw
    obtain ⟨is, k, e, rr⟩ := R.rep e1
    obtain ⟨js, k', e', rr'⟩ := R.rep e2
    have l1 := rr.length
    have l2 := rr'.length
    simp only [Array.length_toList] at l1 l2
    refine PySem.P.add_list e e' ?_ (le_line (by (first | lia | omega)))
    have h := new_list R (rr.append rr')
    have hh : (is.toList ++ js.toList).toArray = is ++ js := by simp
    rw [hh] at h
    obtain ⟨R', x', r'⟩ := h
    exact g _ _ _ _ _ s.toks R' x' r' q
  · cases r with | tup _ b is k e rr =>
    cases rw with | tup _ b' js k' e' rr' =>
    have l1 := rr.length
    have l2 := rr'.length
    simp only [Array.length_toList] at l1 l2
    have n1 : ¬ is.isEmpty = true := by
      intro h
      have : is.size = 0 := by simpa [Array.isEmpty] using h
      exact h1 (List.eq_nil_of_length_eq_zero (by (first | lia | omega)))
    have n2 : ¬ js.isEmpty = true := by
      intro h
      have : js.size = 0 := by simpa [Array.isEmpty] using h
      exact h2 (List.eq_nil_of_length_eq_zero (by (first | lia | omega)))
    refine PySem.P.add_tuple e e' n1 n2 ?_ (le_line (by (first | lia | omega)))
    have h := VRep.new_tup (rr.append rr')
    have hh : (is.toList ++ js.toList).toArray = is ++ js := by simp
    rw [hh] at h
    exact g.grow R (push_le _ _) (fun a o e => Heap.get?_push_of_some _ e) h q s.toks
end

/-! ### slices -/
noncomputable def cut (xs : List AV) (a b : Option Int) : List AV := (xs.drop (a.elim 0 (clipAt xs.length))).take (b.elim xs.length (clipAt xs.length) - a.elim 0 (clipAt xs.length))

inductive PartA : AV → Option Int → Prop
  | none : PartA .none none
  | int (i : Int) : PartA (.int i) (some i)
theorem PartA.rep {h0 n μ h v k u} (p : PartA v k) (r : VRep h0 n μ h v u) : IsPart u k := by
  cases p with
  | none => cases r; exact .none
  | int i => cases r; exact .int i _

noncomputable def gSlice (v lo hi : AV) (σ : St) (P : AV → St → Prop) : Prop := ∃ a b, PartA lo a ∧ PartA hi b ∧
  match v with
  | .tup xs => xs.length ≤ 1000000 ∧ P (.tup (cut xs a b)) σ
  | .lst xs => xs.length ≤ 1000000 ∧ P (.ref σ.n) (σ.push (.list (cut xs a b)))
  | .ref l => ∃ xs, σ.obj l = some (.list xs) ∧ xs.length ≤ 1000000 ∧ P (.ref σ.n) (σ.push (.list (cut xs a b)))
  | _ => False

theorem adj1 (v : Int) (n : Nat) : (if v < 0 then max (v + (n : Int)) 0 else min v (n : Int)) = max 0 (min (if v < 0 then v + (n : Int) else v) (n : Int)) := by
  split
  · rename_i h; rw [Int.max_comm, Int.min_eq_left (by (first | lia | omega))]
  · rename_i h; rw [Int.max_eq_right (Int.le_min.mpr ⟨Int.not_lt.mp h, Int.natCast_nonneg n⟩)]
theorem adjust_gen (a b : Option Int) (n : Nat) : Builtin.Slice.sliceAdjust a b 1 (n : Int) = (((a.elim 0 (clipAt n) : Nat) : Int), ((b.elim n (clipAt n) : Nat) : Int)) := by
  unfold Builtin.Slice.sliceAdjust
  have h1 : ¬ ((1 : Int) < 0) := by (first | lia | omega)
  simp only [h1, if_false]
  cases a <;> cases b <;> simp [clipAt_cast] <;> (try constructor) <;> first | exact adj1 _ _ | (first | lia | omega)

theorem clipAt_le (n : Nat) (i : Int) : clipAt n i ≤ n := by
  have := clipAt_cast n i
  (first | lia | omega)

theorem places_gen (a b : Nat) : Builtin.Slice.slicePlaces (a : Int) (b : Int) 1 = b - a := by
  unfold Builtin.Slice.slicePlaces
  have h1 : (1 : Int) > 0 := by (first | lia | omega)
  simp only [h1, if_true, Int.ediv_one]
  split <;> (first | lia | omega)

section
variable {C : Ctx} {S : Sc} {d : Nat} {A : Around} {E : Value → Shared → Prop} {s : Shared} {prog : Program} {w : World}

theorem slicePart_any {v : Value} {k : Option Int} {Q : Option Int → Shared → Prop} (p : IsPart v k) (h : Q k s) : wpAny (model prog w) A (Builtin.Slice.slicePartIndex v) Q E s := by
  cases p with
  | none => exact slicePart_none h
  | int i t => exact slicePart_int h

theorem sliceApplied_gen {sl : Addr} {vl vu : Value} {a b : Option Int} {n : Nat} {Q : Int × Int × Nat → Shared → Prop} (hs : s.heap.IsSliceOf sl vl vu .none) (pl : IsPart vl a) (pu : IsPart vu b)
    (h : Q (((a.elim 0 (clipAt n) : Nat) : Int), 1, b.elim n (clipAt n) - a.elim 0 (clipAt n)) s) :
    wpAny (model prog w) A (Builtin.Slice.sliceApplied (.ref sl) (pure (n : Int))) Q E s := by
  obtain ⟨os, hos, hcs, hds⟩ := id hs
  unfold Builtin.Slice.sliceApplied Builtin.Slice.sliceFields
  refine wpAny_bind (wpAny_bind (wpAny_field hos hds (x := vl) rfl (wpAny_bind (wpAny_field hos hds (x := vu) rfl (wpAny_bind (wpAny_field hos hds (x := .none) rfl (wpAny_pure ?_)))))))
  refine wpAny_bind (slicePart_none ?_)
  show wpAny _ _ (if ((1 : Int) == 0) = true then _ else _) _ _ s
  rw [if_neg (by decide)]
  refine wpAny_bind (slicePart_any pl (wpAny_bind (slicePart_any pu (wpAny_bind (wpAny_pure ?_)))))
  show wpAny _ _ (match Builtin.Slice.sliceAdjust a b 1 (n : Int) with | (lo, hi) => pure (lo, (1 : Int), Builtin.Slice.slicePlaces lo hi 1)) _ _ s
  rw [adjust_gen a b n]
  show wpAny _ _ (pure (((a.elim 0 (clipAt n) : Nat) : Int), (1 : Int), Builtin.Slice.slicePlaces ((a.elim 0 (clipAt n) : Nat) : Int) ((b.elim n (clipAt n) : Nat) : Int) 1)) _ _ s
  rw [places_gen]
  exact wpAny_pure h

theorem pick_gen (xs : Array Value) (a k : Nat) : ((List.range k).filterMap fun (k : Nat) => xs[((a : Int) + (k : Int) * 1).toNat]?).toArray = ((xs.toList.drop a).take k).toArray := by
  have e : (fun (k : Nat) => xs[((a : Int) + (k : Int) * 1).toNat]?) = fun k => xs[a + k]? := by
    funext k
    have : ((a : Int) + (k : Int) * 1).toNat = a + k := by (first | lia | omega)
    rw [this]
  rw [e]
  have := pick_run xs a k
  rw [List.filterMap_map] at this
  have e2 : ((fun x => xs[x]?) ∘ fun x => a + x) = fun k => xs[a + k]? := rfl
  rw [e2] at this
  rw [this]

theorem getItem_tuple_slice {t sl : Addr} {items : Array Value} {kk : Nat} {vl vu : Value} {a b : Option Int} {Q : Value → Shared → Prop} (ht : s.heap.get? t = some { cls := .type "tuple", data := .seq items kk }) (hs : s.heap.IsSliceOf sl vl vu .none) (pl : IsPart vl a) (pu : IsPart vu b)
    (h : ∀ r h', (h' = s.heap ∧ r = t ∧ (items.toList.drop (a.elim 0 (clipAt items.size))).take (b.elim items.size (clipAt items.size) - a.elim 0 (clipAt items.size)) = items.toList) ∨
      (r = s.heap.objs.size ∧ h' = s.heap.push { cls := .type "tuple", data := .seq ((items.toList.drop (a.elim 0 (clipAt items.size))).take (b.elim items.size (clipAt items.size) - a.elim 0 (clipAt items.size))).toArray }) → Q (.ref r) { s with heap := h' })
    (hsz : items.size ≤ sizeLine) : wpAny (model prog w) A (getItem (.ref t) (.ref sl)) Q E s := by
  have ht' : IsTup s.heap t items := ⟨_, ht, rfl, _, rfl⟩
  have hdrop : sizeOk (.seq ((items.toList.drop (a.elim 0 (clipAt items.size))).take (b.elim items.size (clipAt items.size) - a.elim 0 (clipAt items.size))).toArray) := by
    show Array.size _ ≤ sizeLine
    rw [List.size_toArray, List.length_take, List.length_drop, Array.length_toList]
    exact Nat.le_trans (Nat.min_le_right _ _) (Nat.le_trans (Nat.sub_le _ _) hsz)
  obtain ⟨os, hos, hcs, hds⟩ := id hs
  have hTs : s.TypeIs (.ref sl) "slice" := ⟨os, hos, hcs⟩
  unfold getItem
  try with_reducible refine wpAny_holding ?_
  first | refine wpAny_bind (wpAny_pure ?_) | skip
  refine wpAny_bind (wpAny_sequenceKey ht'.typeIs (by decide) ?_)
  refine wpAny_bind (wpAny_callSpecial?_slot (name := Str.ofString "__getitem__") ht'.typeIs slot_tuple_getitem
    (wpAny_call_entry slot_tuple_getitem ht'.typeIs entry_tuple_getitem ?_ (args_tuple_getitem _ _)))
  show wpAny _ _ (Builtin.Tuple.tupleItemsOf (.ref t) >>= _) _ _ s
  refine wpAny_bind (tupleItemsOf_ ht' ?_)
  refine wpAny_bind (wpAny_typeOf hTs ?_)
  rw [if_pos (by decide)]
  refine wpAny_bind (sliceApplied_gen hs pl pu ?_)
  generalize hA : a.elim 0 (clipAt items.size) = x at h hdrop ⊢
  generalize hB : b.elim items.size (clipAt items.size) = y at h hdrop ⊢
  have hy : y ≤ items.size := by
    rw [← hB]
    cases b with
    | none => exact Nat.le_refl _
    | some b => exact clipAt_le _ _
  show wpAny _ _ (if ((x : Int) == 0 && (1 : Int) == 1 && (y - x) == items.size) = true then _ else _) _ _ s
  split
  · rename_i hc
    simp at hc
    obtain ⟨hx, hc⟩ := hc
    subst hx
    refine wpAny_bind (m := Builtin.Tuple.tupleIsExact _) ?_
    unfold Builtin.Tuple.tupleIsExact
    refine wpAny_bind (wpAny_typeOf ht'.typeIs (wpAny_pure ?_))
    rw [if_pos (by decide)]
    refine wpAny_bind (wpAny_rule ?_)
    refine wpAny_bind (wpAny_pure ?_)
    refine wpAny_pure ⟨_, rfl, ?_⟩
    refine wpAny_pure (h t s.heap (.inl ⟨rfl, rfl, ?_⟩))
    rw [hc, List.drop_zero, List.take_of_length_le (by simp)]
  · rw [pick_gen]
    have hh := h _ _ (.inr ⟨rfl, rfl⟩)
    first
      | exact wpAny_bind (m := Builtin.Tuple.tupleExact _) (wpAny_newObj_type (wpAny_pure ⟨_, rfl, wpAny_pure hh⟩) hdrop)
      | exact wpAny_bind (m := Builtin.Tuple.tupleExact _) (wpAny_newObj_type (wpAny_bind (wpAny_pure (wpAny_pure ⟨_, rfl, wpAny_pure hh⟩))) hdrop)
      | exact wpAny_bind (wpAny_bind (m := Builtin.Tuple.tupleExact _) (wpAny_newObj_type (wpAny_pure (wpAny_pure ⟨_, rfl, wpAny_pure hh⟩)) hdrop))
      | exact wpAny_bind (wpAny_bind (m := Builtin.Tuple.tupleExact _) (wpAny_newObj_type (wpAny_pure ⟨_, rfl, wpAny_pure hh⟩) hdrop))
end
end Mine
end

noncomputable section
open PySem PySem.W PyProof.Rows PySem.Calls PySem.Spec
set_option Elab.async false
set_option maxRecDepth 100000
namespace Mine

structure SimP (C : Ctx) (S : Sc) (d : Nat) (e : Option Expr) (F : FE) : Prop where
  go : ∀ A env s μ ρ σ P Q E, Pt C S d A env s μ ρ σ → F ρ σ P → GoV C s μ σ P Q → wpAny (model C.prog C.w) A (evalPart e env) Q E s

section
variable {C : Ctx} {S : Sc} {d : Nat}
theorem simP_none : SimP C S d none (Ex.const .none) :=
  ⟨fun zz1 zz2 s zz3 zz4 zz5 zz6 zz7 zz8 p f g => wpAny_pure (g.same p.r .none f s.toks)⟩
theorem simP_some {e : Expr} {F : FE} (h : SimE C S d e F) : SimP C S d (some e) F := ⟨h.go⟩
theorem SimP.run {A env s μ ρ σ} {e : Option Expr} {F : FE} {P : AV → St → Prop} {E : Value → Shared → Prop} (H : SimP C S d e F) (p : Pt C S d A env s μ ρ σ) (f : F ρ σ P) :
    wpAny (model C.prog C.w) A (evalPart e env) (fun u s' => ∃ v σ' μ' h' t', s' = { s with heap := h', toks := t' } ∧ Pt C S d A env { s with heap := h', toks := t' } μ' ρ σ' ∧ Nxt σ.n μ s.heap σ'.n μ' h' NoOwn ∧ VRep C.h0 σ'.n μ' h' v u ∧ P v σ') E s :=
  H.go A env s μ ρ σ P _ E p f fun v u σ' μ' h' t' R x r q => ⟨v, σ', μ', h', t', rfl, p.nxt R x, x, r, q⟩

noncomputable def sliceOk (v : AV) (σ : St) : Prop := (∃ xs, v = .tup xs) ∨ isList v σ ∨ (∃ xs, v = .lst xs)
theorem gSlice_ok {v a b σ P} (g : gSlice v a b σ P) : sliceOk v σ := by
  obtain ⟨i, j, _, _, g⟩ := g
  cases v <;> simp only at g
  · exact .inl ⟨_, rfl⟩
  · exact .inr (.inr ⟨_, rfl⟩)
  · obtain ⟨xs, e, _⟩ := g
    exact .inr (.inl ⟨_, _, rfl, e⟩)

theorem sliceOk_looks {A : Around} {E : Value → Shared → Prop} {s : Shared} {μ σ v u} {Q : Bool → Shared → Prop} (R : Rel C μ σ s.heap) (r : VRep C.h0 σ.n μ s.heap v u) (k : sliceOk v σ) (q : Q false s) :
    wpAny (model C.prog C.w) A (getitemInPython u) Q E s := by
  rcases k with k | k | ⟨xs, rfl⟩
  · exact subOk_looks R r (.inl k) q
  · exact subOk_looks R r (.inr (.inl k)) q
  · cases r with | lst _ a items hl rr =>
    obtain ⟨o, ho, hc, n, hd⟩ := hl
    have ne : Value.ref a ≠ .builtin "sys.modules#opaque" := fun h => nomatch h
    rw [getitemInPython_of_ne ne]
    exact wpAny_bind (wpAny_specialOf (T := "list") ⟨_, R.base _ _ ho, hc⟩ slot_list_getitem.lookup (wpAny_pure q))

theorem VReps.cut {h0 n μ h} {xs : List AV} {us : Array Value} (a b : Option Int) (r : VReps h0 n μ h xs us.toList) :
    VReps h0 n μ h (Mine.cut xs a b) ((us.toList.drop (a.elim 0 (clipAt us.size))).take (b.elim us.size (clipAt us.size) - a.elim 0 (clipAt us.size))) := by
  have hl := r.length
  simp only [Array.length_toList] at hl
  unfold Mine.cut
  rw [hl]
  exact (r.drop _).take _

theorem simSlice {value : Expr} {lo hi : Option Expr} {p pos : Pos} {fv fa fb : FE} (hv : SimE C S d value fv) (ha : SimP C S d lo fa) (hb : SimP C S d hi fb) :
    SimE C S d (.Subscript value (.Slice lo hi none p) pos) (fun ρ σ P => fv ρ σ fun v σ => fa ρ σ fun a σ => fb ρ σ fun b σ => gSlice v a b σ P) := by
  constructor
  intro A env s μ ρ σ P Q E pt hf g
  rw [arm_eval_Subscript]
  refine wpAny_bind (wpAny_mono (hv.run pt hf) (fun u s' h => ?_) fun zz1 zz2 e => e)
  obtain ⟨v, σ', μ', h', t', rfl, p', x, r, q⟩ := h
  refine wpAny_bind (wpAny_holding (wpAny_Slice (wpAny_mono (ha.run p' q) (fun ua s' h => ?_) fun zz1 zz2 e => e)))
  obtain ⟨va, σ2, μ2, h2, t2, rfl, p2, x2, r2, q2⟩ := h
  refine wpAny_mono (hb.run p2 q2) (fun ub s' h => ?_) fun zz1 zz2 e => e
  obtain ⟨vb, σ3, μ3, h3, t3, rfl, p3, x3, r3, q3⟩ := h
  rw [evalPart_none]
  refine wpAny_pure ?_
  have rv := (r.nxt x2).nxt x3
  have ra := r2.nxt x3
  let H := h3.push { cls := .type "slice", data := .fields #[ua, ub, .none] }
  have hk : ∀ a o, h3.get? a = some o → H.get? a = some o := fun a o e => Heap.get?_push_of_some _ e
  have X : Nxt σ3.n μ3 h3 σ3.n μ3 H NoOwn := Nxt.grow NoOwn (push_le _ _) hk σ3.n μ3
  have R4 : Rel C μ3 σ3 H := p3.r.grow (push_le _ _) hk
  have hsl : H.IsSliceOf h3.objs.size ua ub .none := Heap.IsSliceOf.new ..
  refine wpAny_bind (wpAny_standAt (wpAny_bind ?_))
  refine sliceOk_looks (s := { s with heap := H, toks := t3 }) R4 (rv.nxt X) (gSlice_ok q3) ?_
  have hop : subscripted (.Slice lo hi none p) false u (.ref h3.objs.size) = operate [.ref h3.objs.size, u] (getItem u (.ref h3.objs.size)) := rfl
  rw [hop]
  refine wpAny_bind (wpAny_operating ?_)
  obtain ⟨ia, ib, pa, pb, q3⟩ := q3
  have fin : ∀ (w : AV) (y : Value) (σ5 : St) (μ5 : Nat → Addr) (h5 : Heap), Rel C μ5 σ5 h5 → Nxt σ3.n μ3 H σ5.n μ5 h5 NoOwn → VRep C.h0 σ5.n μ5 h5 w y → P w σ5 →
      wpAny (model C.prog C.w) A (do letTemporaryGo value u y; pure y) Q E { s with heap := h5, toks := t3 } := fun w y σ5 μ5 h5 R5 N5 r5 q5 =>
    wpAny_bind (wpAny_letTemporaryGo (wpAny_pure (g w y σ5 μ5 h5 t3 R5 ((((x.trans x2).trans x3).trans X).trans N5) r5 q5)))
  have rv4 := rv.nxt X
  cases v <;> simp only at q3
  · rename_i xs
    obtain ⟨hz, q3⟩ := q3
    cases rv4 with | tup _ a items kk e rr =>
    have hl := rr.length
    simp only [Array.length_toList] at hl
    refine getItem_tuple_slice (s := { s with heap := H, toks := t3 }) e hsl (pa.rep (ra.nxt X)) (pb.rep (r3.nxt X)) (fun y h5 hor => ?_) (le_line (by (first | lia | omega)))
    rcases hor with ⟨rfl, rfl, heq⟩ | ⟨rfl, rfl⟩
    · have rc := rr.cut ia ib
      rw [heq] at rc
      exact fin _ _ σ3 μ3 _ R4 (Nxt.refl ..) (.tup _ y items kk e rc) q3
    · exact fin _ _ σ3 μ3 _ (R4.grow (push_le _ _) fun a o e => Heap.get?_push_of_some _ e) (Nxt.grow NoOwn (push_le _ _) (fun a o e => Heap.get?_push_of_some _ e) _ _) (VRep.new_tup (rr.cut ia ib)) q3
  · rename_i xs
    obtain ⟨hz, q3⟩ := q3
    cases rv4 with | lst _ a items e rr =>
    have hl := rr.length
    simp only [Array.length_toList] at hl
    have e4 : Heap.IsList H a items := by
      obtain ⟨o, ho, rest⟩ := e
      exact ⟨o, R4.base _ _ ho, rest⟩
    refine wpAny_getItem_list_slice (s := { s with heap := H, toks := t3 }) e4 hsl (pa.rep (ra.nxt X)) (pb.rep (r3.nxt X)) .none (by simp) ?_ (le_line (by (first | lia | omega)))
    rw [slicePick_plain]
    obtain ⟨R5, N5, r5⟩ := new_list R4 (rr.cut ia ib)
    exact fin _ _ _ _ _ R5 N5 r5 q3
  · rename_i l
    obtain ⟨xs, e, hz, q3⟩ := q3
    cases rv4
    obtain ⟨items, kk, e', rr⟩ := R4.rep e
    have hl := rr.length
    simp only [Array.length_toList] at hl
    refine wpAny_getItem_list_slice (s := { s with heap := H, toks := t3 }) ⟨_, e', rfl, _, rfl⟩ hsl (pa.rep (ra.nxt X)) (pb.rep (r3.nxt X)) .none (by simp) ?_ (le_line (by (first | lia | omega)))
    rw [slicePick_plain]
    obtain ⟨R5, N5, r5⟩ := new_list R4 (rr.cut ia ib)
    exact fin _ _ _ _ _ R5 N5 r5 q3

/-- value[::-1] -/
noncomputable def gRev (v : AV) (σ : St) (P : AV → St → Prop) : Prop := ∃ l xs, v = .ref l ∧ σ.obj l = some (.list xs) ∧ xs.length ≤ 1000000 ∧ P (.ref σ.n) (σ.push (.list xs.reverse))

theorem VReps.rev {h0 n μ h} {vs : List AV} {us : List Value} (r : VReps h0 n μ h vs us) : VReps h0 n μ h vs.reverse us.reverse := by
  induction us generalizing vs with
  | nil => cases r; exact .nil
  | cons u us ih => cases r with | cons v vs _ _ h1 h2 => simpa using (ih h2).append (.cons _ _ _ _ h1 .nil)

theorem simRev {value step : Expr} {p pos : Pos} {fv : FE} (hv : SimE C S d value fv) (hst : SimE C S d step (Ex.const (.int (-1)))) :
    SimE C S d (.Subscript value (.Slice none none (some step) p) pos) (fun ρ σ P => fv ρ σ fun v σ => gRev v σ P) := by
  constructor
  intro A env s μ ρ σ P Q E pt hf g
  rw [arm_eval_Subscript]
  refine wpAny_bind (wpAny_mono (hv.run pt hf) (fun u s' h => ?_) fun zz1 zz2 e => e)
  obtain ⟨v, σ', μ', h', t', rfl, p', x, r, q⟩ := h
  refine wpAny_bind (wpAny_holding (wpAny_Slice ?_))
  rw [evalPart_none]
  refine wpAny_pure (wpAny_pure ?_)
  rw [evalPart_some]
  refine wpAny_mono (hst.run (P := fun w σ2 => w = .int (-1) ∧ σ2 = σ') p' ⟨rfl, rfl⟩) (fun ua s' h => ?_) fun zz1 zz2 e => e
  obtain ⟨va, σ3, μ3, h3, t3, rfl, p3, x3, ra, rfl, rfl⟩ := h
  cases ra with | int _ tk =>
  have rv := r.nxt x3
  let H := h3.push { cls := .type "slice", data := .fields #[.none, .none, .int (-1) tk] }
  have hk : ∀ a o, h3.get? a = some o → H.get? a = some o := fun a o e => Heap.get?_push_of_some _ e
  have X : Nxt σ3.n μ3 h3 σ3.n μ3 H NoOwn := Nxt.grow NoOwn (push_le _ _) hk σ3.n μ3
  have R4 : Rel C μ3 σ3 H := p3.r.grow (push_le _ _) hk
  have hsl : H.IsSliceOf h3.objs.size .none .none (.int (-1) tk) := Heap.IsSliceOf.new ..
  obtain ⟨l, xs, rfl, e, hz, q⟩ := q
  refine wpAny_bind (wpAny_standAt (wpAny_bind ?_))
  refine sliceOk_looks (s := { s with heap := H, toks := t3 }) R4 (rv.nxt X) (.inr (.inl ⟨_, _, rfl, e⟩)) ?_
  have hop : subscripted (.Slice none none (some step) p) false u (.ref h3.objs.size) = operate [u, .ref h3.objs.size] (getItem u (.ref h3.objs.size)) := rfl
  rw [hop]
  refine wpAny_bind (wpAny_operating ?_)
  cases rv with | ref _ hl0 =>
  obtain ⟨items, kk, e', rr⟩ := R4.rep e
  have hl := rr.length
  simp only [Array.length_toList] at hl
  refine wpAny_getItem_list_slice (s := { s with heap := H, toks := t3 }) ⟨_, e', rfl, _, rfl⟩ hsl .none .none (.int _ _) (by simp) ?_ (le_line (by (first | lia | omega)))
  rw [krv_pick]
  obtain ⟨R5, N5, r5⟩ := new_list R4 rr.rev
  exact wpAny_bind (wpAny_letTemporaryGo (wpAny_pure (g _ _ _ _ _ t3 R5 (((x.trans x3).trans X).trans N5) r5 q)))
end
end Mine
end

noncomputable section
open PySem PySem.W PyProof.Rows PySem.Calls PySem.Spec
set_option Elab.async false
set_option maxRecDepth 100000
namespace Mine

/-- a new list of the store, at an address that was free -/
theorem new_at {C : Ctx} {vs : List AV} {items : Array Value} {kk : Nat} {σ : St} {μ : Nat → Addr} {h h' : Heap} {a : Addr} (R : Rel C μ σ h) (hk : ∀ b o, h.get? b = some o → h'.get? b = some o) (hs : h.objs.size ≤ h'.objs.size) (ha : h.objs.size ≤ a)
    (e : h'.get? a = some { cls := .type "list", data := .seq items kk }) (r : ∀ n' μ', Nxt σ.n μ h n' μ' h' NoOwn → VReps C.h0 n' μ' h' vs items.toList) :
    Rel C (upd μ σ.n a) (σ.push (.list vs)) h' ∧ Nxt σ.n μ h (σ.n + 1) (upd μ σ.n a) h' NoOwn ∧ VRep C.h0 (σ.n + 1) (upd μ σ.n a) h' (.ref σ.n) (.ref a) := by
  have x := Nxt.push (h := h) (h' := h') NoOwn hs hk ha σ.n μ
  refine ⟨R.push hs hk ha ⟨items, kk, e, r _ _ x⟩, x, ?_⟩
  have := VRep.ref (h0 := C.h0) (n := σ.n + 1) (μ := upd μ σ.n a) (h := h') σ.n (Nat.lt_succ_self _)
  simpa [upd] using this

noncomputable def srt (ns : List Int) : List Int := ns.mergeSort (fun a b => decide (a ≤ b))
theorem srt_perm (ns : List Int) : (srt ns).Perm ns := List.mergeSort_perm ns _
theorem srt_sorted (ns : List Int) : (srt ns).Pairwise (· ≤ ·) := by
  have := List.pairwise_mergeSort (le := fun a b : Int => decide (a ≤ b)) (fun a b c h1 h2 => by simp at *; (first | lia | omega)) (fun a b => by simp; (first | lia | omega)) ns
  exact this.imp (by simp)
theorem srt_uniq {a b : List Int} (p : a.Perm b) (h : a.Pairwise (· ≤ ·)) : a = srt b := lks_uniq (p.trans (srt_perm b).symm) h (srt_sorted b)
theorem srt_id {a : List Int} (h : a.Pairwise (· ≤ ·)) : srt a = a := (srt_uniq (List.Perm.refl a) h).symm

theorem intsAre_of {h0 n μ h} : ∀ {ks : List Int} {us : List Value}, VReps h0 n μ h (intsA ks) us → IntsAre us ks
  | [], us, r => by cases r; exact .nil
  | k :: ks, us, r => by
    cases r with | cons _ _ u us r1 r2 =>
    cases r1
    exact .cons _ _ (intsAre_of r2)
theorem reps_of_ints {h0 n μ h} : ∀ {ks : List Int} {us : List Value}, IntsAre us ks → VReps h0 n μ h (intsA ks) us
  | _, _, .nil => .nil
  | _, _, .cons k t r => .cons _ _ _ _ (.int k t) (reps_of_ints r)

noncomputable def lenA : AV → St → Option Nat := fun v σ => match v with
  | .tup xs => some xs.length
  | .ref l => (match σ.obj l with | some (.list xs) => some xs.length | _ => none)
  | _ => none
noncomputable def gLen : Fs := fun vs σ P => ∃ v n, vs = [v] ∧ lenA v σ = some n ∧ n ≤ 1000000 ∧ P (.int n) σ
noncomputable def gMax : Fs := fun vs σ P => ∃ a b, vs = [.int a, .int b] ∧ P (.int (if b > a then b else a)) σ
noncomputable def gMin : Fs := fun vs σ P => ∃ a b, vs = [.int a, .int b] ∧ P (.int (if b < a then b else a)) σ
noncomputable def gAbs : Fs := fun vs σ P => ∃ a, vs = [.int a] ∧ P (.int (if a < 0 then -a else a)) σ
noncomputable def gInt1 : Fs := fun vs σ P => ∃ a, vs = [.int a] ∧ P (.int a) σ
noncomputable def gListOf : Fs := fun vs σ P => ∃ v xs, vs = [v] ∧ (v = .tup xs ∨ ∃ l, v = .ref l ∧ σ.obj l = some (.list xs)) ∧ xs.length ≤ 1000000 ∧ P (.ref σ.n) (σ.push (.list xs))
noncomputable def gTupOf : Fs := fun vs σ P => ∃ v xs, vs = [v] ∧ (v = .tup xs ∨ ∃ l, v = .ref l ∧ σ.obj l = some (.list xs)) ∧ xs.length ≤ 1000000 ∧ P (.tup xs) σ
noncomputable def gSorted : Fs := fun vs σ P => ∃ l ns, vs = [.ref l] ∧ ns.length < 64 ∧ (σ.obj l = some (.list (intsA ns)) ∨ ∃ kvs, σ.obj l = some (.dI kvs) ∧ ns = kvs.map (·.1)) ∧ P (.ref σ.n) (σ.push (.list (intsA (srt ns))))
noncomputable def gRange1 : Fs := fun vs σ P => ∃ b, vs = [.int b] ∧ P (.rng 0 b) σ
noncomputable def gRange2 : Fs := fun vs σ P => ∃ a b, vs = [.int a, .int b] ∧ P (.rng a b) σ

section
variable {C : Ctx} {S : Sc} {d : Nat}

theorem simN_len : SimN C d (fun us => call (.builtin "len") us []) gLen := by
  intro A s μ σ as us P Q E a R r hg g
  obtain ⟨v, n, rfl, hn, hz, q⟩ := hg
  cases r with | cons _ _ u1 _ r1 rr =>
  cases rr
  cases v <;> simp only [lenA] at hn <;> try (cases hn; done)
  rotate_left
  · rename_i l
    cases r1
    split at hn
    · rename_i xs e
      cases hn
      obtain ⟨items, k, e', rr⟩ := R.rep e
      have hlen := rr.length
      simp only [Array.length_toList] at hlen
      refine PySem.Calls.call_len_list (items := items) ⟨_, e', rfl, _, rfl⟩ (by (first | lia | omega)) ?_
      rw [hlen]
      exact g.same R (.int _ _) q _
    · cases hn
  · rename_i xs
    cases r1 with | tup _ b items k e rr =>
    cases hn
    have hlen := rr.length
    simp only [Array.length_toList] at hlen
    refine PyProof.Rows.len_tuple (items := items) ⟨_, e, rfl, _, rfl⟩ (by (first | lia | omega)) ?_
    rw [hlen]
    exact g.same R (.int _ _) q _

theorem simN_max : SimN C d (fun us => call (.builtin "max") us []) gMax := by
  intro A s μ σ as us P Q E a R r hg g
  obtain ⟨i, j, rfl, q⟩ := hg
  cases r with | cons _ _ u1 _ r1 rr =>
  cases rr with | cons _ _ u2 _ r2 rr =>
  cases rr
  cases r1
  cases r2
  refine withSize (PySem.max_two_ints a.hd fun h' tk hk hs => ?_)
  split at q <;> rename_i hc
  · rw [if_pos hc]; exact g.grow R hs hk (.int _ _) q tk
  · rw [if_neg hc]; exact g.grow R hs hk (.int _ _) q tk
theorem simN_min : SimN C d (fun us => call (.builtin "min") us []) gMin := by
  intro A s μ σ as us P Q E a R r hg g
  obtain ⟨i, j, rfl, q⟩ := hg
  cases r with | cons _ _ u1 _ r1 rr =>
  cases rr with | cons _ _ u2 _ r2 rr =>
  cases rr
  cases r1
  cases r2
  refine withSize (PySem.min_two_ints a.hd fun h' tk hk hs => ?_)
  split at q <;> rename_i hc
  · rw [if_pos hc]; exact g.grow R hs hk (.int _ _) q tk
  · rw [if_neg hc]; exact g.grow R hs hk (.int _ _) q tk
theorem simN_abs : SimN C d (fun us => call (.builtin "abs") us []) gAbs := by
  intro A s μ σ as us P Q E a R r hg g
  obtain ⟨i, rfl, q⟩ := hg
  cases r with | cons _ _ u1 _ r1 rr =>
  cases rr
  cases r1
  exact PyProof.Rows.call_abs_int fun u tk => g.same R (.int _ _) q tk
theorem simN_int : SimN C d (fun us => call (.type "int") us []) gInt1 := by
  intro A s μ σ as us P Q E a R r hg g
  obtain ⟨i, rfl, q⟩ := hg
  cases r with | cons _ _ u1 _ r1 rr =>
  cases rr
  cases r1
  exact PySem.call_int_int (g.same R (.int _ _) q s.toks)
theorem simN_range1 : SimN C d (fun us => call (.type "range") us []) gRange1 := by
  intro A s μ σ as us P Q E a R r hg g
  obtain ⟨i, rfl, q⟩ := hg
  cases r with | cons _ _ u1 _ r1 rr =>
  cases rr
  cases r1
  exact PySem.call_range_1 (g.grow R (push_le _ _) (fun a o e => Heap.get?_push_of_some _ e) (.rng _ _ _ _ _ _ (IsRange.new ..)) q _)
theorem simN_range2 : SimN C d (fun us => call (.type "range") us []) gRange2 := by
  intro A s μ σ as us P Q E a R r hg g
  obtain ⟨i, j, rfl, q⟩ := hg
  cases r with | cons _ _ u1 _ r1 rr =>
  cases rr with | cons _ _ u2 _ r2 rr =>
  cases rr
  cases r1
  cases r2
  exact PySem.call_range_2 (g.grow R (push_le _ _) (fun a o e => Heap.get?_push_of_some _ e) (.rng _ _ _ _ _ _ (IsRange.new ..)) q _)

theorem simN_listOf : SimN C d (fun us => call (.type "list") us []) gListOf := by
  intro A s μ σ as us P Q E a R r hg g
  obtain ⟨v, xs, rfl, hv, hz, q⟩ := hg
  cases r with | cons _ _ u1 _ r1 rr =>
  cases rr
  obtain ⟨it, T, o, items, n, rfl, hT, ho, hc, hd, rr⟩ : ∃ it T o items n, u1 = .ref it ∧ (T = "list" ∨ T = "tuple") ∧ s.heap.get? it = some o ∧ o.cls = .type T ∧ o.data = .seq items n ∧ VReps C.h0 σ.n μ s.heap xs items.toList := by
    rcases hv with rfl | ⟨l, rfl, e⟩
    · cases r1 with | tup _ b items k e rr => exact ⟨b, _, _, items, k, rfl, .inr rfl, e, rfl, rfl, rr⟩
    · cases r1
      obtain ⟨items, k, e', rr⟩ := R.rep e
      exact ⟨_, _, _, items, k, rfl, .inl rfl, e', rfl, rfl, rr⟩
  have hlen := rr.length
  simp only [Array.length_toList] at hlen
  refine withSize (PySem.call_list_seq it hT ho hc hd (fun h' c' hk hD hs => ?_) (le_line (by (first | lia | omega))))
  obtain ⟨R', x', r'⟩ := new_at R hk hs (Nat.le_refl _) hD (fun n' μ' N => rr.nxt N)
  exact g _ _ _ _ _ s.toks R' x' r' q

theorem simN_tupOf : SimN C d (fun us => call (.type "tuple") us []) gTupOf := by
  intro A s μ σ as us P Q E a R r hg g
  obtain ⟨v, xs, rfl, hv, hz, q⟩ := hg
  cases r with | cons _ _ u1 _ r1 rr =>
  cases rr
  rcases hv with rfl | ⟨l, rfl, e⟩
  · have r0 := r1
    cases r1 with | tup _ b items k e rr =>
    exact PySem.call_tuple_same ⟨_, e, rfl, _, rfl⟩ (g.same R r0 q s.toks)
  · cases r1
    obtain ⟨items, k, e', rr⟩ := R.rep e
    have hlen := rr.length
    simp only [Array.length_toList] at hlen
    refine withSize (PySem.call_tuple_list ⟨_, e', rfl, _, rfl⟩ (fun h' hk hs => ?_) (le_line (by (first | lia | omega))))
    have hk2 : ∀ b o, s.heap.get? b = some o → (h'.push { cls := .type "tuple", data := .seq items }).get? b = some o := fun b o e => Heap.get?_push_of_some _ (hk b o e)
    have N : Nxt σ.n μ s.heap σ.n μ (h'.push { cls := .type "tuple", data := .seq items }) NoOwn := Nxt.grow NoOwn hs hk2 σ.n μ
    exact g.grow R hs hk2 (.tup _ _ items 0 (Heap.get?_push_size _ rfl) (rr.nxt N)) q s.toks

theorem sorted_list_sim {A : Around} {s : Shared} {μ σ} {l : Nat} {ns : List Int} {P : AV → St → Prop} {Q : Value → Shared → Prop} {E : Value → Shared → Prop} (R : Rel C μ σ s.heap) (e : σ.obj l = some (.list (intsA ns))) (h64 : ns.length < 64)
    (q : P (.ref σ.n) (σ.push (.list (intsA (srt ns))))) (g : GoV C s μ σ P Q) : wpAny (model C.prog C.w) A (call (.builtin "sorted") [.ref (μ l)]) Q E s := by
  obtain ⟨items, k, e', rr⟩ := R.rep e
  have hlen := rr.length
  simp only [Array.length_toList, List.length_map] at hlen
  refine withSize (sorted_ints (vs := items.toList) (ns := ns) ⟨_, e', rfl, k, by simp⟩ (intsAre_of rr) (by simp; (first | lia | omega)) fun out ns' hI hp hP hs => ?_)
  obtain ⟨c, hc⟩ := sortedAll_at s.heap items.toList out
  rw [srt_uniq hp hP] at hI
  obtain ⟨R', x', r'⟩ := new_at R (fun b o => sortedAll_old) hs (Nat.le_succ _) hc (fun n' μ' N => reps_of_ints hI)
  exact g _ _ _ _ _ s.toks R' x' r' q

theorem dictAt_of {prog w h a} {kus : List (Int × Value)} (x : Heap.DictOf (intKind prog w) h a kus) : ∃ ep, h.DictAt (intKind prog w) a kus ep := x.dictAt

theorem sorted_dict_sim {A : Around} {s : Shared} {μ σ} {l : Nat} {kvs : List (Int × AV)} {P : AV → St → Prop} {Q : Value → Shared → Prop} {E : Value → Shared → Prop} (a : AOk d A) (R : Rel C μ σ s.heap) (e : σ.obj l = some (.dI kvs)) (h64 : kvs.length < 64)
    (q : P (.ref σ.n) (σ.push (.list (intsA (srt (kvs.map (·.1))))))) (g : GoV C s μ σ P Q) : wpAny (model C.prog C.w) A (call (.builtin "sorted") [.ref (μ l)]) Q E s := by
  obtain ⟨kus, hd, hp⟩ := R.rep e
  obtain ⟨ep, hat⟩ := hd.dictAt
  have hlen := hp.length
  have hkeys := hp.keys
  refine Calls.call_function_entry kind_sorted plain_sorted entry_sorted (args_sorted1 _) ?_
  unfold Builtin.«sorted»
  refine wpAny_bind (m := checkCount "sorted" 1 1 _) (wpAny_pure ?_)
  refine wpAny_bind (withSize (kdu_collect (A := A.in1) (kdl_dict (knd := intKind C.prog C.w) (kvs := kus) (ep := ep) (R.notMods (R.lt _ _ e))) a.hd hat (le_line (by (first | lia | omega))) fun h' tk acc hk hacc hs => ?_))
  have hl : acc.toList.length = kus.length := by rw [Array.length_toList]; exact hacc.1
  refine wpAny_bind (wpAny_newList ?_ (le_line (by (first | lia | omega))))
  have hI : IntsAre acc.toList (kus.map (·.1)) := by
    have : ∀ (us : List Value) (ks : List (Int × Value)), us.length = ks.length → (∀ (i : Nat) (v : Value), us[i]? = some v → ∃ k x, ks[i]? = some (k, x) ∧ (intKind C.prog C.w).is k v = true) → IntsAre us (ks.map (·.1)) := by
      intro us
      induction us with
      | nil => intro ks hl _; cases ks with
        | nil => exact .nil
        | cons _ _ => simp at hl
      | cons u us ih => intro ks hl hv; cases ks with
        | nil => simp at hl
        | cons kx ks =>
          obtain ⟨k, x, e1, e2⟩ := hv 0 u rfl
          simp at e1
          subst e1
          have e3 : ∃ t, u = .int k t := Value.isInt_shape e2
          obtain ⟨t, rfl⟩ := e3
          exact .cons k t (ih ks (by simpa using hl) fun i v h => hv (i + 1) v (by simpa using h))
    refine this _ _ hl fun i v h => hacc.2 i v (by rw [← Array.getElem?_toList]; exact h)
  refine wpAny_bind (wpAny_holding (wpAny_mono (wpAny_call_entry (Q := fun zz1 s' => ∃ (out : Array Value) (ns' : List Int), IntsAre out.toList ns' ∧ ns'.Perm (kus.map (·.1)) ∧ ns'.Pairwise (· ≤ ·) ∧ s' = { s with heap := sortedHeap (h'.push { cls := .type "list", data := .seq acc.toList.toArray }) h'.objs.size acc.toList out, toks := tk })
    PyProof.Rows.slot_list_sort ⟨_, Heap.get?_push_size _ rfl, rfl⟩ PyProof.Rows.entry_list_sort (list_sort_tree (n := 0) (Heap.get?_push_size _ rfl) hI (by rw [hl]; (first | lia | omega)) fun out ns' a1 a2 a3 => ⟨.none, rfl, out, ns', a1, a2, a3, rfl⟩) (PyProof.Rows.args_list_sort _))
    (fun zz1 s2 hs2 => ?_) fun zz1 zz2 e => e))
  obtain ⟨out, ns', hI', hp', hP', rfl⟩ := hs2
  refine wpAny_pure ⟨_, rfl, ?_⟩
  obtain ⟨c, hc⟩ := sortedHeap_at (h := h'.push { cls := .type "list", data := .seq acc.toList.toArray }) (a := h'.objs.size) (vs := acc.toList) (n := 0) (out := out) (Heap.get?_push_size _ rfl)
  have hsz2 : s.heap.objs.size ≤ (sortedHeap (h'.push { cls := .type "list", data := .seq acc.toList.toArray }) h'.objs.size acc.toList out).objs.size := by
    unfold sortedHeap
    simp only [Heap.size_update, Heap.size_push]
    exact Nat.le_trans hs (Nat.le_add_right _ 3)
  have hk2 : ∀ b o, s.heap.get? b = some o → (sortedHeap (h'.push { cls := .type "list", data := .seq acc.toList.toArray }) h'.objs.size acc.toList out).get? b = some o := fun b o e => by
    have e1 := hk b o e
    have hlt := Heap.lt_size e1
    rw [sortedHeap_old (Nat.ne_of_lt hlt) (Nat.lt_of_lt_of_le hlt (push_le _ _))]
    exact Heap.get?_push_of_some _ e1
  rw [hkeys] at hp'
  rw [srt_uniq hp' hP'] at hI'
  obtain ⟨R', x', r'⟩ := new_at R hk2 hsz2 hs hc (fun n' μ' N => reps_of_ints hI')
  exact g _ _ _ _ _ tk R' x' r' q

theorem simN_sorted : SimN C d (fun us => call (.builtin "sorted") us []) gSorted := by
  intro A s μ σ as us P Q E a R r hg g
  obtain ⟨l, ns, rfl, hz, he, q⟩ := hg
  cases r with | cons _ _ u1 _ r1 rr =>
  cases rr
  cases r1
  rcases he with e | ⟨kvs, e, rfl⟩
  · exact sorted_list_sim R e hz q g
  · exact sorted_dict_sim a R e (by simpa using hz) q g
end
end Mine
end

noncomputable section
open PySem PySem.W PyProof.Rows PySem.Calls PySem.Spec
set_option Elab.async false
set_option maxRecDepth 100000
namespace Mine

noncomputable def gIsinst (T : String) : Fs := fun vs σ P => ∃ v, vs = [v, .typ T] ∧ (v = .none ∨ isDictS v σ) ∧ P (.bool false) σ
noncomputable def gInI : F2 := fun v w σ P => ∃ k l ns, v = .int k ∧ w = .ref l ∧ σ.obj l = some (.list (intsA ns)) ∧ P (.bool (ns.any (· == k))) σ

section
variable {C : Ctx} {S : Sc} {d : Nat}

/-- a built-in name as a value -/
theorem simBoot {x : Str} {pos} {T : String} (hx : S.scope.names.lookup x = some .globalImplicit) (e : nsIn C.K mainGlobals x = some none) (hb : bootBuiltins x = some (.type T)) (hn : x ≠ "__name__")
    (hd : (x == ("__debug__" : Str)) = false := by decide) : SimE C S d (.Name x pos) (Ex.const (.typ T)) := by
  constructor
  intro A env s μ ρ σ P Q E p f g
  have hk : env.scope.kind = .function := p.e.scope ▸ p.e.kind
  have hl : env.kindOf x = some .globalImplicit := by unfold Env.kindOf; rw [p.e.scope]; exact hx
  exact Name_function_global hk hl (loadGlobal_builtin (env := env) (by rw [p.e.glob]; exact C.T.g.keeps p.r.base) (mg_none_of C.KX C.T.g e)
    (by rw [p.e.bi]; exact C.T.b.keeps p.r.base) ((C.T.builtins x hn).trans hb) (g.same p.r (.typ T) f s.toks)) hd

theorem simN_isTuple : SimN C d (fun us => call (.builtin "isinstance") us []) (gIsinst "tuple") := by
  intro A s μ σ as us P Q E a R r hg g
  obtain ⟨v, rfl, hv, q⟩ := hg
  cases r with | cons _ _ u1 _ r1 rr =>
  cases rr with | cons _ _ u2 _ r2 rr =>
  cases rr
  cases r2
  rcases hv with rfl | hv
  · cases r1; exact PySem.IsiPair.NoneType_tuple (g.same R (.bool _) q _)
  · obtain ⟨l, kvs, rfl, e⟩ := hv
    cases r1
    obtain ⟨ob, hob, hcb⟩ := id (kind_dictS μ σ s (.ref l) _ R (.ref l (R.lt _ _ e)) ⟨l, kvs, rfl, e⟩).1
    exact PySem.IsiPair.dict_tuple hob hcb (g.same R (.bool _) q _)
theorem simN_isBool : SimN C d (fun us => call (.builtin "isinstance") us []) (gIsinst "bool") := by
  intro A s μ σ as us P Q E a R r hg g
  obtain ⟨v, rfl, hv, q⟩ := hg
  cases r with | cons _ _ u1 _ r1 rr =>
  cases rr with | cons _ _ u2 _ r2 rr =>
  cases rr
  cases r2
  rcases hv with rfl | hv
  · cases r1; exact PySem.IsiPair.NoneType_bool (g.same R (.bool _) q _)
  · obtain ⟨l, kvs, rfl, e⟩ := hv
    cases r1
    obtain ⟨ob, hob, hcb⟩ := id (kind_dictS μ σ s (.ref l) _ R (.ref l (R.lt _ _ e)) ⟨l, kvs, rfl, e⟩).1
    exact PySem.IsiPair.dict_bool hob hcb (g.same R (.bool _) q _)

theorem sim_inI : Sim2 C d (compareOp .In) gInI := by
  intro A s μ σ v w u x P Q E a R r rw hg g
  obtain ⟨k, l, ns, rfl, rfl, e, q⟩ := hg
  cases r with | int _ t =>
  cases rw
  obtain ⟨items, kk, e', rr⟩ := R.rep e
  have hI := intsAre_of rr
  refine PySem.SeqRoads2.in_list (items := items) (n := kk) (fun y => match y with | .int i _ => i == k | _ => false) (fun y hy => ?_) e' ?_
  · obtain ⟨i, u, rfl⟩ : ∃ i u, y = .int i u := by
      have hy' : y ∈ items.toList := by simpa using hy
      generalize items.toList = us at hI hy'
      clear q e g e' rr hy
      induction hI with
      | nil => simp at hy'
      | cons i t _ ih =>
        rcases List.mem_cons.mp hy' with h | h
        · exact ⟨i, t, h⟩
        · exact ih h
    exact PySem.MeetsSeq.EqGives.int i k u t
  · have : items.any (fun y => match y with | .int i _ => i == k | _ => false) = ns.any (· == k) := by
      rw [← Array.any_toList]
      generalize items.toList = us at hI
      clear q e g e' rr
      induction hI with
      | nil => rfl
      | cons i t _ ih => simp [ih]
    rw [this]
    exact g.same R (.bool _) q s.toks

/-! ### several names at once -/
noncomputable def setMany : List Nat → List AV → Rho → Rho
  | i :: is, x :: xs, ρ => setMany is xs (upd ρ i (some x))
  | _, _, ρ => ρ

/-- plain names, with their slots -/
inductive SimNs (S : Sc) : List Expr → List Str → List Nat → Prop
  | nil : SimNs S [] [] []
  | cons {x px i b es ns is} : (x, i, b) ∈ S.vars → SimNs S es ns is → (∀ env, assignEach (.Name x px :: es) env = (false, assign (.Name x px) env) :: assignEach es env) → SimNs S (.Name x px :: es) (x :: ns) (i :: is)

theorem SimNs.star {es ns is} (H : SimNs S es ns is) (env : Env) : (assignEach es env).findIdx? (·.1) = none ∧ (assignEach es env).length = is.length := by
  induction H with
  | nil => exact ⟨rfl, rfl⟩
  | cons hx _ he ih => rw [he]; exact ⟨by simp [List.findIdx?_cons, ih.1], by simp [ih.2]⟩

theorem SimNs.run {es ns is} (H : SimNs S es ns is) : ∀ {A env s μ ρ σ} {xs : List AV} {us : List Value} {Q : Unit → Shared → Prop} {E : Value → Shared → Prop}, Pt C S d A env s μ ρ σ → VReps C.h0 σ.n μ s.heap xs us → xs.length = is.length →
    (∀ h' t', Rel C μ σ h' → Nxt σ.n μ s.heap σ.n μ h' (ownOf env) → Frm C S env σ.n μ (setMany is xs ρ) h' → Q () { s with heap := h', toks := t' }) →
    wpAny (model C.prog C.w) A (assignInOrder ((assignEach es env).map (·.2)) us) Q E s := by
  induction H with
  | nil =>
    intro A env s μ ρ σ xs us Q E p r hl k
    have : xs = [] := List.eq_nil_of_length_eq_zero (by simpa using hl)
    subst this
    cases r
    exact assignInOrder_nil (k s.heap s.toks p.r (Nxt.refl ..) p.f)
  | cons hx _ he ih =>
    intro A env s μ ρ σ xs us Q E p r hl k
    cases r with
    | nil => simp at hl
    | cons v vs u us r1 r2 =>
      rw [he]
      refine assignInOrder_cons (PyProof.Rows.assign_Name (ownStore p hx r1 fun h' t' R' N' F' => ?_))
      refine ih (s := { s with heap := h', toks := t' }) ⟨p.a, p.e, R', F'⟩ (r2.nxt N') (by simpa using hl) fun h2 t2 R2 N2 F2 => ?_
      exact k h2 t2 R2 (N'.trans N2) F2

theorem simT_tup {es ns is k pos} (H : SimNs S es ns is) : SimT C S d (.Tuple es k pos) (fun v ρ σ P => ∃ xs, v = .tup xs ∧ xs.length = is.length ∧ P (setMany is xs ρ) σ) := by
  constructor
  intro A env s μ ρ σ v u P Q E p r hf g
  obtain ⟨xs, rfl, hl, q⟩ := hf
  cases r with | tup _ b items kk e rr =>
  have hlen := rr.length
  simp only [Array.length_toList] at hlen
  obtain ⟨h1, h2⟩ := H.star env
  have hn : (assignEach es env).length = items.size := by rw [h2, hlen, hl]
  rw [assign_Tuple]
  refine wpAny_bind (wpAny_standAt ?_)
  unfold unpack
  rw [hn, h1]
  refine wpAny_bind (wpAny_holding (withSize (unpackItems_tuple p.a.hd ⟨_, e, rfl, _, rfl⟩ fun h' he hs => ?_)))
  have hk : ∀ b o, s.heap.get? b = some o → h'.get? b = some o := fun b o e => he b o (Nat.ne_of_lt (Heap.lt_size e)) e
  have R' : Rel C μ σ h' := p.r.grow hs hk
  have N' : Nxt σ.n μ s.heap σ.n μ h' NoOwn := Nxt.grow NoOwn hs hk σ.n μ
  refine H.run (s := { s with heap := h' }) ⟨p.a, p.e, R', p.f.nxt N' (fun z => z) fun zz1 zz2 zz3 z => z⟩ (rr.nxt N') hl fun h2 t2 R2 N2 F2 => ?_
  exact g _ σ μ h2 t2 R2 ((N'.toOwn _).trans N2) F2 q

/-- the names' own stores, last first -/
theorem bindRun : ∀ {ns : List Str} {is : List Nat} {A env s μ ρ σ} {xs : List AV} {us : List Value} {Q : Unit → Shared → Prop} {E : Value → Shared → Prop}, (∀ j : Nat, ∀ x i, ns[j]? = some x → is[j]? = some i → ∃ b, (x, i, b) ∈ S.vars) → ns.length = is.length → Pt C S d A env s μ ρ σ → VReps C.h0 σ.n μ s.heap xs us → xs.length = is.length →
    (∀ h' t', Rel C μ σ h' → Nxt σ.n μ s.heap σ.n μ h' (ownOf env) → Frm C S env σ.n μ (setMany is xs ρ) h' → Q () { s with heap := h', toks := t' }) →
    wpAny (model C.prog C.w) A (assignInOrder (ns.map fun n => bindName env n) us) Q E s := by
  intro ns
  induction ns with
  | nil =>
    intro is A env s μ ρ σ xs us Q E hv hn p r hl k
    have h1 : is = [] := List.eq_nil_of_length_eq_zero (by simpa using hn.symm)
    subst h1
    have : xs = [] := List.eq_nil_of_length_eq_zero (by simpa using hl)
    subst this
    cases r
    exact assignInOrder_nil (k s.heap s.toks p.r (Nxt.refl ..) p.f)
  | cons n ns ih =>
    intro is A env s μ ρ σ xs us Q E hv hn p r hl k
    cases is with
    | nil => simp at hn
    | cons i is =>
      cases r with
      | nil => simp at hl
      | cons v vs u us r1 r2 =>
        obtain ⟨b, hx⟩ := hv 0 n i rfl rfl
        refine assignInOrder_cons (wpAny_bindName (ownStore p hx r1 fun h' t' R' N' F' => ?_))
        refine ih (s := { s with heap := h', toks := t' }) (fun j x i' e1 e2 => hv (j + 1) x i' (by simpa using e1) (by simpa using e2)) (by simpa using hn) ⟨p.a, p.e, R', F'⟩ (r2.nxt N') (by simpa using hl) fun h2 t2 R2 N2 F2 => ?_
        exact k h2 t2 R2 (N'.trans N2) F2

theorem simSwap {es : List Expr} {ns : List Str} {is : List Nat} {k tpos value pos fe} (he : SimE C S d value fe) (hv : ∀ j : Nat, ∀ x i, ns.reverse[j]? = some x → is.reverse[j]? = some i → ∃ b, (x, i, b) ∈ S.vars) (hn : ns.length = is.length)
    (hs : ∀ env, swapsWithSole [.Tuple es k tpos] value pos.line env = pure false := by intro zz1; rfl) (hw : ∀ env : Env, env.scope = S.scope → swappedStores [.Tuple es k tpos] value env = pure (some ns)) :
    SimS C S d (.Assign [.Tuple es k tpos] value pos) (fun ρ σ P => fe ρ σ fun v σ => ∃ xs, v = .tup xs ∧ xs.length = is.length ∧ P .next (setMany is.reverse xs.reverse ρ) σ) := by
  constructor
  intro A env s μ ρ σ P Q E p hf g
  refine Assign_Tuple_swapped (wpAny_mono (he.run p hf) (fun u s' h => ?_) fun zz1 zz2 e => e) (hs env) (hw env p.e.scope)
  obtain ⟨v, σ', μ', h', t', rfl, p', y, r, xs, rfl, hl, q⟩ := h
  cases r with | tup _ b items kk e rr =>
  have hlen := rr.length
  simp only [Array.length_toList] at hlen
  have hnn : ns.length = items.size := by rw [hn, hlen, hl]
  rw [hnn]
  refine withSize (unpackItems_tuple p.a.hd ⟨_, e, rfl, _, rfl⟩ fun h2 he hs2 => ?_)
  have hk : ∀ b o, h'.get? b = some o → h2.get? b = some o := fun b o e => he b o (Nat.ne_of_lt (Heap.lt_size e)) e
  have R2 : Rel C μ' σ' h2 := p'.r.grow hs2 hk
  have N2 : Nxt σ'.n μ' h' σ'.n μ' h2 NoOwn := Nxt.grow NoOwn hs2 hk σ'.n μ'
  refine bindRun (s := { s with heap := h2, toks := t' }) (is := is.reverse) (xs := xs.reverse) hv (by simp [hn]) ⟨p.a, p.e, R2, p'.f.nxt N2 (fun z => z) fun zz1 zz2 zz3 z => z⟩ (rr.nxt N2).rev (by simp [hl]) fun h3 t3 R3 N3 F3 => ?_
  exact g .next .next _ σ' μ' h3 t3 R3 (((y.trans N2).toOwn _).trans N3) F3 .next q

/-! ### dict displays -/
@[reducible] noncomputable def Ex.pairs : List (FE × FE) → Rho → St → (List (AV × AV) → St → Prop) → Prop
  | [], _, σ, P => P [] σ
  | (f, g) :: r, ρ, σ, P => f ρ σ fun k σ => g ρ σ fun v σ => Ex.pairs r ρ σ fun l σ => P ((k, v) :: l) σ

inductive SimDs (C : Ctx) (S : Sc) (d : Nat) : List (Option Expr) → List Expr → List (FE × FE) → Prop
  | nil : SimDs C S d [] [] []
  | cons {k v ks vs f g r} : SimE C S d k f → SimE C S d v g → SimDs C S d ks vs r → SimDs C S d (some k :: ks) (v :: vs) ((f, g) :: r)

inductive P2 (h0 : Heap) (n : Nat) (μ : Nat → Addr) (h : Heap) : List (AV × AV) → List (Value × Value) → Prop
  | nil : P2 h0 n μ h [] []
  | cons (k v u x l r) : VRep h0 n μ h k u → VRep h0 n μ h v x → P2 h0 n μ h l r → P2 h0 n μ h ((k, v) :: l) ((u, x) :: r)

theorem SimDs.run {ks vs fs} (H : SimDs C S d ks vs fs) : ∀ {A env s μ ρ σ pos} {P : List (AV × AV) → St → Prop} {E : Value → Shared → Prop}, Pt C S d A env s μ ρ σ → Ex.pairs fs ρ σ P →
    wpAny (model C.prog C.w) A (evalPairs (pairTrees ks vs env pos)) (fun us s' => ∃ l σ' μ' h' t', s' = { s with heap := h', toks := t' } ∧ Pt C S d A env { s with heap := h', toks := t' } μ' ρ σ' ∧ Nxt σ.n μ s.heap σ'.n μ' h' NoOwn ∧ P2 C.h0 σ'.n μ' h' l us ∧ P l σ') E s := by
  induction H with
  | nil => intro A env s μ ρ σ pos P E p f; exact evalPairs_nil ⟨[], σ, μ, s.heap, s.toks, rfl, p, Nxt.refl .., .nil, f⟩
  | cons hk hv _ ih =>
    intro A env s μ ρ σ pos P E p f
    refine evalPairs_cons (wpAny_mono (hk.run p f) (fun u s' h => ?_) fun zz1 zz2 e => e)
    obtain ⟨kv, σ', μ', h', t', rfl, p', x, r, q⟩ := h
    refine wpAny_bind (wpAny_mono (hv.run p' q) (fun u2 s' h => ?_) fun zz1 zz2 e => e)
    obtain ⟨vv, σ2, μ2, h2, t2, rfl, p2, x2, r2, q2⟩ := h
    refine wpAny_bind (wpAny_standAt (wpAny_pure ?_))
    refine wpAny_mono (ih p2 q2) (fun us s' h => ?_) fun zz1 zz2 e => e
    obtain ⟨l, σ3, μ3, h3, t3, rfl, p3, x3, r3, q3⟩ := h
    exact ⟨_, σ3, μ3, h3, t3, rfl, p3, (x.trans x2).trans x3, .cons _ _ _ _ _ _ ((r.nxt x2).nxt x3) (r2.nxt x3) r3, q3⟩
theorem SimDs.len {ks vs fs} (H : SimDs C S d ks vs fs) : ks.all (·.isSome) = true ∧ ks.length = vs.length := by
  induction H with
  | nil => exact ⟨rfl, rfl⟩
  | cons _ _ _ ih => exact ⟨by simpa using ih.1, by simp [ih.2]⟩

noncomputable def putAll {κ : Type} [DecidableEq κ] (kvs more : List (κ × AV)) : List (κ × AV) := more.foldl (fun acc kv => put acc kv.1 kv.2) kvs

theorem PReps.merged {κ : Type} [DecidableEq κ] {h0 n μ h} : ∀ {more : List (κ × AV)} {us : List (κ × Value)} {a : List (κ × AV)} {b : List (κ × Value)}, PReps h0 n μ h a b → PReps h0 n μ h more us → PReps h0 n μ h (putAll a more) (PySem.merged b us)
  | [], us, a, b, r, r2 => by cases r2; exact r
  | (k, v) :: more, us, a, b, r, r2 => by
    cases r2 with | cons _ _ _ u us h1 h2 =>
    exact PReps.merged (a := Mine.put a k v) (b := stored b k u) (r.put k h1) h2

theorem P2.strs {h0 n μ h} : ∀ {kvs : List (Str × AV)} {us : List (Value × Value)}, P2 h0 n μ h (kvs.map fun p => (AV.str p.1, p.2)) us → ∃ kus : List (Str × Value), Carries (strKind C.prog C.w) us kus ∧ PReps h0 n μ h kvs kus
  | [], us, r => by cases r; exact ⟨[], trivial, .nil⟩
  | (k, v) :: kvs, us, r => by
    cases r with | cons _ _ u x _ us h1 h2 h3 =>
    cases h1
    obtain ⟨kus, hc, hp⟩ := P2.strs h3
    exact ⟨(k, x) :: kus, ⟨strKind_is _ _ k _, rfl, hc⟩, .cons _ _ _ _ _ h2 hp⟩
theorem P2.ints {h0 n μ h} : ∀ {kvs : List (Int × AV)} {us : List (Value × Value)}, P2 h0 n μ h (kvs.map fun p => (AV.int p.1, p.2)) us → ∃ kus : List (Int × Value), Carries (intKind C.prog C.w) us kus ∧ PReps h0 n μ h kvs kus
  | [], us, r => by cases r; exact ⟨[], trivial, .nil⟩
  | (k, v) :: kvs, us, r => by
    cases r with | cons _ _ u x _ us h1 h2 h3 =>
    cases h1
    obtain ⟨kus, hc, hp⟩ := P2.ints h3
    exact ⟨(k, x) :: kus, ⟨intKind_is _ _ k _, rfl, hc⟩, .cons _ _ _ _ _ h2 hp⟩

theorem new_dict {σ : St} {μ : Nat → Addr} {h : Heap} {o : AO} (R : Rel C μ σ h) (r : ∀ n' μ', ORep C.prog C.w C.h0 n' μ' (h.push { cls := .type "dict", data := .dict #[] }) h.objs.size o) :
    Rel C (upd μ σ.n h.objs.size) (σ.push o) (h.push { cls := .type "dict", data := .dict #[] }) ∧ Nxt σ.n μ h (σ.n + 1) (upd μ σ.n h.objs.size) (h.push { cls := .type "dict", data := .dict #[] }) NoOwn ∧
    VRep C.h0 (σ.n + 1) (upd μ σ.n h.objs.size) (h.push { cls := .type "dict", data := .dict #[] }) (.ref σ.n) (.ref h.objs.size) := by
  have x := Nxt.push (h := h) (h' := h.push { cls := .type "dict", data := .dict #[] }) NoOwn (push_le _ _) (fun a o e => Heap.get?_push_of_some _ e) (Nat.le_refl _) σ.n μ
  refine ⟨R.push (push_le _ _) (fun a o e => Heap.get?_push_of_some _ e) (Nat.le_refl _) (r _ _), x, ?_⟩
  have := VRep.ref (h0 := C.h0) (n := σ.n + 1) (μ := upd μ σ.n h.objs.size) (h := h.push { cls := .type "dict", data := .dict #[] }) σ.n (Nat.lt_succ_self _)
  simpa [upd] using this

noncomputable def emptyD : Nat → AO
  | 0 => .dS []
  | 1 => .dI []
  | _ => .dT []
theorem emptyD_rep {h : Heap} (k : Nat) (n' μ') : ORep C.prog C.w C.h0 n' μ' (h.push { cls := .type "dict", data := .dict #[] }) h.objs.size (emptyD k) := by
  match k with
  | 0 => exact ⟨[], Heap.DictOf.new h, .nil⟩
  | 1 => exact ⟨[], Heap.DictOf.new h, .nil⟩
  | _ + 2 => exact ⟨[], Heap.DictOfH.new h, .nil⟩

theorem simDict0 {pos} (k : Nat) : SimE C S d (.Dict [] [] pos) (fun zz1 σ P => P (.ref σ.n) (σ.push (emptyD k))) := by
  constructor
  intro A env s μ ρ σ P Q E p f g
  refine wpAny_Dict_empty ?_
  obtain ⟨R', x', r'⟩ := new_dict p.r (emptyD_rep (C := C) (h := s.heap) k)
  exact g _ _ _ _ _ s.toks R' x' r' f

/-- a dict is made of these pairs -/
noncomputable abbrev gDictS (n : Nat) (l : List (AV × AV)) (σ' : St) (P : AV → St → Prop) : Prop := ∃ kvs : List (Str × AV), l = kvs.map (fun p => (AV.str p.1, p.2)) ∧ σ'.obj n = some (.dS []) ∧ P (.ref n) (σ'.set n (.dS (putAll [] kvs)))
theorem simDictS {ks vs fs pos} (H : SimDs C S d ks vs fs) (h0 : ks ≠ []) (hlen : ks.length ≤ 15 := by decide) :
    SimE C S d (.Dict ks vs pos) (fun ρ σ P => Ex.pairs fs ρ (σ.push (.dS [])) fun l σ' => gDictS σ.n l σ' P) := by
  constructor
  intro A env s μ ρ σ P Q E p f g
  obtain ⟨R', x', r'⟩ := new_dict p.r (emptyD_rep (C := C) (h := s.heap) 0)
  refine wpAny_Dict_walk (knd := strKind C.prog C.w) H.len.1 H.len.2 h0 hlen ?_
  have p1 : Pt C S d A env { s with heap := s.heap.push { cls := .type "dict", data := .dict #[] } } (upd μ σ.n s.heap.objs.size) ρ (σ.push (.dS [])) := ⟨p.a, p.e, R', p.f.nxt x' (fun z => z) fun zz1 zz2 zz3 z => z⟩
  refine wpAny_mono (H.run p1 f) (fun us s' h => ?_) fun zz1 zz2 e => e
  obtain ⟨l, σ2, μ2, h2, t2, rfl, p2, x2, r2, kvs, rfl, hd, q⟩ := h
  obtain ⟨kus, hc, hp⟩ := P2.strs (C := C) r2
  have hm : μ2 σ.n = s.heap.objs.size := by
    rw [x2.mu σ.n (by simp)]; simp [upd]
  have hl2 : σ.n < σ2.n := p2.r.lt _ _ hd
  obtain ⟨kus0, hd0, hp0⟩ := p2.r.rep hd
  cases hp0
  rw [hm] at hd0
  refine ⟨kus, hc, hd0, fun h3 hd3 hs3 => ?_⟩
  rw [← hm] at hs3 hd3
  have N := Nxt.set NoOwn p2.r hl2 hs3
  refine g (.ref σ.n) _ _ μ2 h3 _ (p2.r.set (o := .dS (putAll [] kvs)) hl2 hs3 ⟨_, hd3, PReps.nxt N (PReps.merged .nil hp)⟩) ((x'.trans x2).trans N) ?_ q
  have := VRep.ref (h0 := C.h0) (n := σ2.n) (μ := μ2) (h := h3) σ.n hl2
  rwa [hm] at this
theorem simDictI {ks vs fs pos} (H : SimDs C S d ks vs fs) (h0 : ks ≠ []) (hlen : ks.length ≤ 15 := by decide) :
    SimE C S d (.Dict ks vs pos) (fun ρ σ P => Ex.pairs fs ρ (σ.push (.dI [])) fun l σ' => ∃ kvs : List (Int × AV), l = kvs.map (fun p => (AV.int p.1, p.2)) ∧ σ'.obj σ.n = some (.dI []) ∧ P (.ref σ.n) (σ'.set σ.n (.dI (putAll [] kvs)))) := by
  constructor
  intro A env s μ ρ σ P Q E p f g
  obtain ⟨R', x', r'⟩ := new_dict p.r (emptyD_rep (C := C) (h := s.heap) 1)
  refine wpAny_Dict_walk (knd := intKind C.prog C.w) H.len.1 H.len.2 h0 hlen ?_
  have p1 : Pt C S d A env { s with heap := s.heap.push { cls := .type "dict", data := .dict #[] } } (upd μ σ.n s.heap.objs.size) ρ (σ.push (.dI [])) := ⟨p.a, p.e, R', p.f.nxt x' (fun z => z) fun zz1 zz2 zz3 z => z⟩
  refine wpAny_mono (H.run p1 f) (fun us s' h => ?_) fun zz1 zz2 e => e
  obtain ⟨l, σ2, μ2, h2, t2, rfl, p2, x2, r2, kvs, rfl, hd, q⟩ := h
  obtain ⟨kus, hc, hp⟩ := P2.ints (C := C) r2
  have hm : μ2 σ.n = s.heap.objs.size := by
    rw [x2.mu σ.n (by simp)]; simp [upd]
  have hl2 : σ.n < σ2.n := p2.r.lt _ _ hd
  obtain ⟨kus0, hd0, hp0⟩ := p2.r.rep hd
  cases hp0
  rw [hm] at hd0
  refine ⟨kus, hc, hd0, fun h3 hd3 hs3 => ?_⟩
  rw [← hm] at hs3 hd3
  have N := Nxt.set NoOwn p2.r hl2 hs3
  refine g (.ref σ.n) _ _ μ2 h3 _ (p2.r.set (o := .dI (putAll [] kvs)) hl2 hs3 ⟨_, hd3, PReps.nxt N (PReps.merged .nil hp)⟩) ((x'.trans x2).trans N) ?_ q
  have := VRep.ref (h0 := C.h0) (n := σ2.n) (μ := μ2) (h := h3) σ.n hl2
  rwa [hm] at this
end
end Mine
end

noncomputable section
open PySem PySem.W PyProof.Rows PySem.Calls PySem.Spec
set_option Elab.async false
set_option maxRecDepth 100000
namespace Mine

/-! ### while -/
noncomputable def whileL (c : FB) (b : FS) : Nat → FS
  | 0 => fun zz1 zz2 zz3 => False
  | n + 1 => fun ρ σ P => c ρ σ fun t σ => (t = false → P .next ρ σ) ∧ (t = true → b ρ σ fun fl ρ σ => match fl with
    | .next | .cont => whileL c b n ρ σ P
    | .brk => P .next ρ σ
    | .ret v => P (.ret v) ρ σ)

section
variable {C : Ctx} {S : Sc} {d : Nat}

theorem simWhile {test : Expr} {body : List Stmt} {pos} {c : FB} {F : FS} (hc : SimB C S d test c) (hB : SimSs C S d body F) :
    SimS C S d (.While test body [] pos) (fun ρ σ P => ∃ n, whileL c F n ρ σ P) := by
  constructor
  intro A env s μ ρ σ P Q E p hf g
  obtain ⟨n, hf⟩ := hf
  refine wpAny_While (codeAny_whileLoop (fun m s' => ∃ ρ' σ' μ' h' t', s' = { s with heap := h', toks := t' } ∧ Pt C S d A env { s with heap := h', toks := t' } μ' ρ' σ' ∧ Nxt σ.n μ s.heap σ'.n μ' h' (ownOf env) ∧ whileL c F m ρ' σ' P)
    ?_ n ⟨ρ, σ, μ, s.heap, s.toks, rfl, p, Nxt.refl .., hf⟩)
  rintro m s' ⟨ρ', σ', μ', h', t', rfl, p', N', hf'⟩
  cases m with
  | zero => exact hf'.elim
  | succ m =>
    refine wpAny_mono (hc.run p' hf') (fun b s' h => ?_) fun zz1 zz2 e => e
    obtain ⟨σ2, μ2, h2, t2, rfl, p2, x2, q⟩ := h
    have N2 := N'.trans (x2.toOwn _)
    cases b with
    | false => exact wpAny_execs_nil (g .next .next ρ' σ2 μ2 h2 t2 p2.r N2 p2.f .next (q.1 rfl))
    | true =>
      refine wpAny_mono (hB.run p2 (q.2 rfl)) (fun ff s' h => ?_) fun zz1 zz2 e => e
      obtain ⟨fl, ρ3, σ3, μ3, h3, t3, rfl, p3, x3, r3, q3⟩ := h
      have N3 := N2.trans x3
      cases r3 with
      | next => exact ⟨m, Nat.lt_succ_self _, ρ3, σ3, μ3, h3, t3, rfl, p3, N3, q3⟩
      | cont => exact ⟨m, Nat.lt_succ_self _, ρ3, σ3, μ3, h3, t3, rfl, p3, N3, q3⟩
      | brk => exact g .next .next ρ3 σ3 μ3 h3 t3 p3.r N3 p3.f .next q3
      | ret v u hv => exact g (.ret v) (.ret u) ρ3 σ3 μ3 h3 t3 p3.r N3 p3.f (.ret v u hv) q3

/-! ### what is never reached -/
theorem simDead {e : Expr} : SimE C S d e (fun zz1 zz2 zz3 => False) := ⟨fun zz1 zz2 zz3 zz4 zz5 zz6 zz7 zz8 zz9 zz10 f zz11 => f.elim⟩
theorem simDeadS {e : Stmt} : SimS C S d e (fun zz1 zz2 zz3 => False) := ⟨fun zz1 zz2 zz3 zz4 zz5 zz6 zz7 zz8 zz9 zz10 f zz11 => f.elim⟩

/-! ### a new instance -/
theorem under_ok {A : Around} {c : Addr} {rest : List Value} {kw : List (Str × Value)} (a : AOk (d + 1) A) : AOk d (A.under (.builtin "type.__call__" ⟨.ref c :: rest, kw⟩)) := by
  have hw : (Code.builtin "type.__call__" ⟨.ref c :: rest, kw⟩).weight = 1 := by kernel_rfl
  have hu : (Code.builtin "type.__call__" ⟨.ref c :: rest, kw⟩).cUnits = 1 := by kernel_rfl
  exact ⟨a.hd, by have := a.dep; show A.depth + (Code.builtin "type.__call__" ⟨.ref c :: rest, kw⟩).weight + d < _; (first | lia | omega), by have := a.un; show A.units + (Code.builtin "type.__call__" ⟨.ref c :: rest, kw⟩).cUnits + 20 * d + 80 < _; (first | lia | omega)⟩

theorem codeCls {c fI : Addr} {GI : Fs} (hm : makesIn C.K c = true) (hi : findIn C.K (.ref c) "__init__" = some (some (.ref fI))) (hf : typeIn C.K (.ref fI) = some (.type "function")) (H : CodeN C d (.ref fI) GI) :
    CodeN C (d + 1) (.ref c) (fun vs σ P => GI (.inst c σ.n :: vs) (σ.push (.dS [])) fun v σ' => v = .none ∧ σ.n < σ'.n ∧ P (.inst c σ.n) σ') := by
  intro A s μ σ as us P R a Rr r hg k
  obtain ⟨h, g, dr, t, os⟩ := s
  have X := C.KX.keeps Rr.base
  refine make_core (makes_of X hm) (looks_findIn X hi) (fun self => bind_fn X self hf) (.inl rfl) ?_
  obtain ⟨R1, N1, r1⟩ := new_dict Rr (emptyD_rep (C := C) (h := h) 0)
  have hk : ∀ b o, (h.push emptyDict).get? b = some o → ((h.push emptyDict).push (instObj c h.objs.size)).get? b = some o := fun b o e => Heap.get?_push_of_some _ e
  have R2 := R1.grow (push_le _ (instObj c h.objs.size)) hk
  have N2 : Nxt (σ.n + 1) (upd μ σ.n h.objs.size) (h.push emptyDict) (σ.n + 1) (upd μ σ.n h.objs.size) ((h.push emptyDict).push (instObj c h.objs.size)) NoOwn := Nxt.grow NoOwn (push_le _ _) hk _ _
  have hx : ((h.push emptyDict).push (instObj c h.objs.size)).get? (h.objs.size + 1) = some (instObj c h.objs.size) := by
    have := Heap.get?_push_size (h.push emptyDict) (o := instObj c h.objs.size) rfl
    rwa [Heap.size_push] at this
  have ri : ∀ n' μ' h', Nxt (σ.n + 1) (upd μ σ.n h.objs.size) ((h.push emptyDict).push (instObj c h.objs.size)) n' μ' h' NoOwn → VRep C.h0 n' μ' h' (.inst c σ.n) (.ref (h.objs.size + 1)) := by
    intro n' μ' h' N
    refine .inst c σ.n _ (Nat.lt_of_lt_of_le (Nat.lt_succ_self _) N.nle) ?_
    rw [N.mu σ.n (Nat.lt_succ_self _)]
    have : upd μ σ.n h.objs.size σ.n = h.objs.size := by simp [upd]
    rw [this]
    exact N.imm _ _ hx (.inr (.inl ⟨_, _, rfl⟩))
  refine H (A.under _) _ (upd μ σ.n h.objs.size) (σ.push (.dS [])) (.inst c σ.n :: as) (.ref (h.objs.size + 1) :: us) _ _ (under_ok a) R2 (.cons _ _ _ _ (ri _ _ _ (Nxt.refl ..)) ((r.nxt N1).nxt N2)) hg ?_
  intro v u σ' μ' h' t' R' N' r' q
  obtain ⟨rfl, hlt, q⟩ := q
  cases r'
  exact ⟨rfl, k _ _ σ' μ' h' t' R' ((N1.trans N2).trans N') (ri _ _ _ N') q⟩

/-- a class of the text, called by its name -/
theorem simCallC {x : Str} {px pos : Pos} {es fs} {c : Addr} {FC : Fs} (hx : S.scope.names.lookup x = some .globalImplicit) (e : nsIn C.K mainGlobals x = some (some (.ref c)))
    (hK : keepIn C.K (.ref c) = true) (H : SimEs C S d es fs) (hc : SimN C d (fun us => call (.ref c) us []) FC) (hd : (x == ("__debug__" : Str)) = false := by decide) :
    SimE C S d (.Call (.Name x px) es [] pos) (Ex.ops FC fs) := by
  constructor
  intro A env s μ ρ σ P Q E p hf g
  refine globCall p hx e H ?_ hd
  refine callWith_of (P := fun h => C.K.In h) (by rw [H.plain env pos]; rfl) (keeps_K hK) (wpAny_mono (H.args p hf) (fun a s' h => ?_) fun zz1 zz2 e => e)
  obtain ⟨vs, us, σ', μ', h', t', rfl, rfl, p', y, r, q⟩ := h
  exact ⟨C.KX.keeps p'.r.base, hc A _ μ' σ' vs us P Q E p.a p'.r r q (g.after y)⟩

/-! ### enumerate -/
noncomputable def enumA (xs : List AV) : List AV := xs.zipIdx.map fun p => .tup [.int (p.2 : Nat), p.1]
theorem enumA_get {xs : List AV} {i : Nat} {v : AV} (e : (enumA xs)[i]? = some v) : ∃ x, xs[i]? = some x ∧ v = .tup [.int (i : Nat), x] := by
  unfold enumA at e
  rw [List.getElem?_map, List.getElem?_zipIdx] at e
  cases hx : xs[i]? with
  | none => rw [hx] at e; cases e
  | some x => rw [hx] at e; simp at e; exact ⟨x, rfl, e.symm⟩

theorem src_enum {elts : List Expr} {k : Nat} {pos : Pos} (I it ax l : Nat) (xs : List AV) (h1 : I ≠ it) (h2 : ax ≠ I) (h3 : ax ≠ it) :
    Src C (.Tuple elts k pos) [I, it] I (enumA xs) (fun σ => σ.obj l = some (.list xs)) (fun μ σ zz1 => σ.obj l = some (.list xs) ∧ l < σ.n ∧ μ l = ax)
      (fun i h => ∃ old, IsEnum h I it i old ∧ h.IsListIter it ax i) (fun i u h => ∃ a x, u = .ref a ∧ IsEnumOut h I it ((i : Nat) + 1 : Int) x a ∧ h.IsListIter it ax (i + 1)) where
  frame := fun i h h' hi hk => by
    obtain ⟨old, e, o, e2, r⟩ := hi
    exact ⟨old, hk I (by simp) _ e, o, hk it (by simp) o e2, r⟩
  live := fun i h hi b hb => by
    obtain ⟨old, e, o, e2, c, dd⟩ := hi
    simp at hb
    rcases hb with rfl | rfl
    · exact ⟨_, e, notImm_of (fun h => by simp at h) (fun h => by simp at h) (fun c => fun h => nomatch h)⟩
    · exact ⟨o, e2, notImm_of (by rw [c]; decide) (by rw [c]; decide) (by rw [c]; intro c; exact fun h => nomatch h)⟩
  okof := fun μ σ h ok => ok.1
  stab := fun μ σ h μ' σ' h' o ok N z => ⟨z, Nat.lt_of_lt_of_le ok.2.1 N.nle, (N.mu l ok.2.1).trans ok.2.2⟩
  item := fun A i μ σ s v Q E hh hu R ok hi hv k => by
    obtain ⟨e, hl, rfl⟩ := ok
    obtain ⟨old, he, hit⟩ := hi
    obtain ⟨x, hx, rfl⟩ := enumA_get hv
    obtain ⟨items, kk, e', rr⟩ := R.rep e
    obtain ⟨u, hu, ru⟩ := rr.get hx
    refine wpAny_pyNext_enum_item he hit ⟨_, e', rfl, _, rfl⟩ (by simpa using hu) h1 fun h' ho hit' ht hsz hk => ?_
    have hk2 : ∀ b o, b ∉ [I, it] → s.heap.get? b = some o → h'.get? b = some o := fun b o hb e => hk b o (fun z => hb (by simp [z])) (fun z => hb (by simp [z])) e
    have live0 : ∀ b ∈ [I, it], ∃ o, s.heap.get? b = some o ∧ ¬ Imm o := by
      intro b hb
      obtain ⟨o, e2, c, dd⟩ := hit
      simp at hb
      rcases hb with rfl | rfl
      · exact ⟨_, he, notImm_of (fun h => by simp at h) (fun h => by simp at h) (fun c => fun h => nomatch h)⟩
      · exact ⟨o, e2, notImm_of (by rw [c]; decide) (by rw [c]; decide) (by rw [c]; intro c; exact fun h => nomatch h)⟩
    have N : Nxt σ.n μ s.heap σ.n μ h' (fun a => a ∈ [I, it]) := ⟨Nat.le_refl _, fun zz1 zz2 => rfl, fun l h1 h2 => absurd h2 (Nat.not_lt.mpr h1), by rw [hsz]; exact Nat.le_succ _,
      fun a o e i => hk2 a o (fun hm => by obtain ⟨o', e', ni⟩ := live0 a hm; rw [e'] at e; cases e; exact ni i) e, fun a o e zz1 h2 => hk2 a o h2 e⟩
    refine k _ h' _ (.tup _ _ _ 0 ht (.cons _ _ _ _ (.int _ _) (.cons _ _ _ _ (ru.nxt N) .nil))) ⟨_, u, rfl, ho, hit'⟩ (fun b hb => ?_) hk2
    obtain ⟨o, e2, c, dd⟩ := hit'
    simp at hb
    rcases hb with rfl | rfl
    · exact ⟨_, ho, notImm_of (fun h => by simp at h) (fun h => by simp at h) (fun c => fun h => nomatch h)⟩
    · exact ⟨o, e2, notImm_of (by rw [c]; decide) (by rw [c]; decide) (by rw [c]; intro c; exact fun h => nomatch h)⟩
  self := fun A i s Q E hi q => by
    obtain ⟨old, he, hit⟩ := hi
    exact wpAny_pyIter_enum he q
  go := fun A i u s Q E hm k => by
    obtain ⟨a, x, rfl, ho, hit⟩ := hm
    refine wpAny_letOwnedTupleGo_enum ho fun h' he hs => k h' ⟨x, he, ?_⟩ fun b o hb e => hs.extBut b o (fun z => hb (by simp [z])) e
    obtain ⟨o, e, r⟩ := hit
    exact ⟨o, hs.extBut it o (Ne.symm h1) e, r⟩
  done := fun A μ σ s Q E hh hu R ok hi k => by
    obtain ⟨e, hl, rfl⟩ := ok
    obtain ⟨old, he, hit⟩ := hi
    obtain ⟨items, kk, e', rr⟩ := R.rep e
    have hlen := rr.length
    have hn : (enumA xs).length = xs.length := by simp [enumA]
    refine wpAny_pyNext_enum_end hh he hit ⟨_, e', rfl, _, rfl⟩ (Array.getElem?_eq_none (by simp at hlen; (first | lia | omega))) fun h' hx => k h' s.toks fun b o hb e => hx b o (fun z => hb (by simp [z])) e

noncomputable def gEnum (vs : List AV) (σ : St) (K : List AV → (St → Prop) → St → Prop) : Prop := ∃ l xs, vs = [.ref l] ∧ σ.obj l = some (.list xs) ∧ K (enumA xs) (fun σ => σ.obj l = some (.list xs)) σ

theorem simI_enum {x : Str} {px pos : Pos} {e : Expr} {elts : List Expr} {k : Nat} {tpos : Pos} {fe : FE} (hx : S.scope.names.lookup x = some .globalImplicit) (en : nsIn C.K mainGlobals x = some none) (hb : bootBuiltins x = some (.type "enumerate")) (hn : x ≠ "__name__")
    (H : SimEs C S d [e] [fe]) (hd : (x == ("__debug__" : Str)) = false := by decide) :
    SimI C S d (.Tuple elts k tpos) (.Call (.Name x px) [e] [] pos) (fun ρ σ K => fe ρ σ fun v σ => gEnum [v] σ K) := by
  constructor
  intro A env s μ ρ σ K Q E p hf g
  refine bootCall p hx en hb hn H ?_ hd
  refine PySem.callWith_type (H.plain env pos) (wpAny_mono (H.args (P := fun vs σ => gEnum vs σ K) p hf) (fun a s' h => ?_) fun zz1 zz2 e => e)
  · obtain ⟨vs, us, σ', μ', h', t', rfl, rfl, p', y, r, l, xs, rfl, el, hK⟩ := h
    cases r with | cons _ _ u1 _ r1 rr =>
    cases rr
    cases r1
    have hl := p'.r.lt l _ el
    obtain ⟨items, kk, e', rr⟩ := p'.r.rep el
    refine PySem.call_enumerate_list (s := { s with heap := h', toks := t' }) ⟨_, e', rfl, _, rfl⟩ fun h2 he hit hsz hk => ?_
    have hlive : μ' l < h'.objs.size := p'.r.mulive hl
    refine wpAny_pyIter_enum he ?_
    have hs2 : h'.objs.size ≤ h2.objs.size := by rw [hsz]; exact Nat.le_add_right _ _
    have R2 := p'.r.grow hs2 hk
    have N2 : Nxt σ'.n μ' h' σ'.n μ' h2 NoOwn := Nxt.grow NoOwn hs2 hk σ'.n μ'
    have F2 := p'.f.nxt N2 (fun z => z) fun zz1 zz2 zz3 z => z
    refine g σ' μ' h2 t' _ _ [h'.objs.size + 1, h'.objs.size] (h'.objs.size + 1) _ _ _ ⟨p.a, p.e, R2, F2⟩ (y.trans N2) (src_enum (h'.objs.size + 1) h'.objs.size (μ' l) l xs (Nat.succ_ne_self _) (Nat.ne_of_lt (Nat.lt_succ_of_lt hlive)) (Nat.ne_of_lt hlive)) ?_ ?_ ⟨el, hl, rfl⟩ ⟨_, he, hit⟩ hK
    · have ge : ∀ b ∈ [h'.objs.size + 1, h'.objs.size], h'.objs.size ≤ b ∧ b < h2.objs.size := by
        intro b hb
        simp at hb
        have hsz' : h2.objs.size = h'.objs.size + 2 := hsz
        rcases hb with rfl | rfl
        · exact ⟨Nat.le_succ _, by rw [hsz']; exact Nat.lt_succ_self _⟩
        · exact ⟨Nat.le_refl _, by rw [hsz']; exact Nat.lt_succ_of_lt (Nat.lt_succ_self _)⟩
      refine ⟨fun b hb => Nat.le_trans p'.r.size (ge b hb).1, fun b hb l' hl' => ?_, fun b hb => ?_, fun b hb z c hc => ?_, fun b hb => (ge b hb).2⟩
      · exact Nat.ne_of_lt (Nat.lt_of_lt_of_le (p'.r.mulive hl') (ge b hb).1)
      · obtain ⟨m, hn, _⟩ := p'.f.loc
        exact Nat.ne_of_gt (Nat.lt_of_lt_of_le hn.lt (ge b hb).1)
      · obtain ⟨w, hw⟩ := p'.f.cellt z c hc
        exact Nat.ne_of_gt (Nat.lt_of_lt_of_le hw.lt (ge b hb).1)
    · intro b hb
      simp at hb
      rcases hb with rfl | rfl
      · exact Nat.le_trans y.size (Nat.le_succ _)
      · exact y.size
end
end Mine
end

noncomputable section
open PySem PySem.W PyProof.Rows PySem.Calls PySem.Spec
set_option Elab.async false
set_option maxRecDepth 100000
namespace Mine

noncomputable def paramsB (S : Sc) (names : List Str) : Bool := S.vars.all fun x => decide (names.length ≤ x.2.1) || names[x.2.1]? == some x.1

theorem defOk_of {C : Ctx} {f : Addr} {nm qn : Str} {pr : Arguments} {body : List Stmt} {sc : Scope} {dv kd dc pm cd ct : Value} {an : Option Addr} {vars : List (Str × Nat × Bool)} {names : List Str} {oc : Value} {od osl}
    (hK : C.K.lookup f = some ⟨oc, od, .func ⟨nm, qn, pr, .stmts body, sc, mainGlobals, [], dv, kd, dc, pm, an, cd, ct, builtinsNs⟩, osl⟩)
    (code : codeIn C.K cd qn = true) (co : (!sc.isCoroutine && !sc.isGenerator) = true)
    (ok : Sc.okB ⟨sc, vars⟩ = true) (nd : decide names.Nodup = true) (kindB : (names.all fun y => sc.names.lookup y == some .local || sc.names.lookup y == some .cell) = true) (pb : paramsB ⟨sc, vars⟩ names = true)
    (bind : ∀ s us, us.length = names.length → (∀ b o, C.h0.get? b = some o → s.heap.get? b = some o) → BindsTo s ⟨nm, qn, pr, .stmts body, sc, mainGlobals, [], dv, kd, dc, pm, an, cd, ct, builtinsNs⟩ ⟨us, []⟩ (names.zip us)) :
    DefOk C f ⟨nm, qn, pr, .stmts body, sc, mainGlobals, [], dv, kd, dc, pm, an, cd, ct, builtinsNs⟩ body ⟨sc, vars⟩ names where
  at_ := ⟨_, _, _, hK⟩
  body := rfl
  clo := rfl
  glob := rfl
  bi := rfl
  code := code
  co := by simp at co; exact co.1
  gen := by simp at co; exact co.2
  scope := rfl
  ok := Sc.ok_of ok
  nodup := of_decide_eq_true nd
  kindB := kindB
  params := fun x i b hm hi => by
    have := List.all_eq_true.mp pb _ hm
    dsimp only at this
    rcases Bool.or_eq_true_iff.mp this with h | h
    · exact absurd (of_decide_eq_true h) (Nat.not_le.mpr hi)
    · exact beq_iff_eq.mp h
  bind := bind
  cellsOk := fun x i hm n => by
    have := (Sc.ok_of ok).kinds x i true hm
    exact cellsFrom_some sc.names n [] (x := x) (.inl this)

theorem len_cons {α : Type} {us : List α} {n : Nat} (h : us.length = n + 1) : ∃ x r, us = x :: r ∧ r.length = n := by
  cases us with
  | nil => cases h
  | cons x r => exact ⟨x, r, rfl, Nat.succ.inj h⟩
theorem bind1 {C : Ctx} {fd : FuncData} {a : Str} (h : ∀ x, bindArgs fd ⟨[x], []⟩ = pure [(a, x)]) : ∀ s us, us.length = [a].length → (∀ b o, C.h0.get? b = some o → s.heap.get? b = some o) → BindsTo s fd ⟨us, []⟩ ([a].zip us) := by
  intro s us hl _
  obtain ⟨x, us0, rfl, hl0⟩ := len_cons hl
  obtain rfl := List.eq_nil_of_length_eq_zero hl0
  exact BindsTo.of_eq (h x)
theorem bind2 {C : Ctx} {fd : FuncData} {a b : Str} (h : ∀ x y, bindArgs fd ⟨[x, y], []⟩ = pure [(a, x), (b, y)]) : ∀ s us, us.length = [a, b].length → (∀ b o, C.h0.get? b = some o → s.heap.get? b = some o) → BindsTo s fd ⟨us, []⟩ ([a, b].zip us) := by
  intro s us hl _
  obtain ⟨x, us0, rfl, hl0⟩ := len_cons hl
  obtain ⟨y, us1, rfl, hl1⟩ := len_cons hl0
  obtain rfl := List.eq_nil_of_length_eq_zero hl1
  exact BindsTo.of_eq (h x y)
theorem bind3 {C : Ctx} {fd : FuncData} {a b c : Str} (h : ∀ x y z, bindArgs fd ⟨[x, y, z], []⟩ = pure [(a, x), (b, y), (c, z)]) : ∀ s us, us.length = [a, b, c].length → (∀ b o, C.h0.get? b = some o → s.heap.get? b = some o) → BindsTo s fd ⟨us, []⟩ ([a, b, c].zip us) := by
  intro s us hl _
  obtain ⟨x, us0, rfl, hl0⟩ := len_cons hl
  obtain ⟨y, us1, rfl, hl1⟩ := len_cons hl0
  obtain ⟨z, us2, rfl, hl2⟩ := len_cons hl1
  obtain rfl := List.eq_nil_of_length_eq_zero hl2
  exact BindsTo.of_eq (h x y z)
theorem bind4 {C : Ctx} {fd : FuncData} {a b c e : Str} (h : ∀ x y z w, bindArgs fd ⟨[x, y, z, w], []⟩ = pure [(a, x), (b, y), (c, z), (e, w)]) : ∀ s us, us.length = [a, b, c, e].length → (∀ b o, C.h0.get? b = some o → s.heap.get? b = some o) → BindsTo s fd ⟨us, []⟩ ([a, b, c, e].zip us) := by
  intro s us hl _
  obtain ⟨x, us0, rfl, hl0⟩ := len_cons hl
  obtain ⟨y, us1, rfl, hl1⟩ := len_cons hl0
  obtain ⟨z, us2, rfl, hl2⟩ := len_cons hl1
  obtain ⟨w, us3, rfl, hl3⟩ := len_cons hl2
  obtain rfl := List.eq_nil_of_length_eq_zero hl3
  exact BindsTo.of_eq (h x y z w)
theorem bind5 {C : Ctx} {fd : FuncData} {a b c e f : Str} (h : ∀ x y z w v, bindArgs fd ⟨[x, y, z, w, v], []⟩ = pure [(a, x), (b, y), (c, z), (e, w), (f, v)]) : ∀ s us, us.length = [a, b, c, e, f].length → (∀ b o, C.h0.get? b = some o → s.heap.get? b = some o) → BindsTo s fd ⟨us, []⟩ ([a, b, c, e, f].zip us) := by
  intro s us hl _
  obtain ⟨x, us0, rfl, hl0⟩ := len_cons hl
  obtain ⟨y, us1, rfl, hl1⟩ := len_cons hl0
  obtain ⟨z, us2, rfl, hl2⟩ := len_cons hl1
  obtain ⟨w, us3, rfl, hl3⟩ := len_cons hl2
  obtain ⟨v, us4, rfl, hl4⟩ := len_cons hl3
  obtain rfl := List.eq_nil_of_length_eq_zero hl4
  exact BindsTo.of_eq (h x y z w v)
theorem bind0 {C : Ctx} {fd : FuncData} (h : bindArgs fd ⟨[], []⟩ = pure []) : ∀ s us, us.length = ([] : List Str).length → (∀ b o, C.h0.get? b = some o → s.heap.get? b = some o) → BindsTo s fd ⟨us, []⟩ (([] : List Str).zip us) := by
  intro s us hl _
  obtain rfl := List.eq_nil_of_length_eq_zero hl
  exact BindsTo.of_eq h

/-- a comprehension's scope -/
noncomputable def rl (scope S : Scope) : Scope := { scope with names := scope.names.map fun (n, k) => if (k == .free && S.kind == .function && S.names.lookup n == some .cell) then (n, .cell) else (n, k) }

noncomputable def compB (scope : Scope) (S S' : Sc) (sl : List Nat) : Bool := S'.okB && S'.vars.all (fun x => !x.2.2 || (S.vars.contains x && scope.names.contains (x.1, NameKind.free))) && S'.vars.all (fun x => x.2.2 || sl.contains x.2.1) &&
  scope.names.all (fun x => x.2 != .free || S.vars.any fun y => y.1 == x.1 && y.2.2) && scope.names.all (fun x => x.2 != .cell) && scope.kind == .function && scope.names.all (fun x => x.2 != .local || scope.names.lookup x.1 == some .local)

theorem compOk_of {S : Sc} {scope : Scope} {vars : List (Str × Nat × Bool)} {sl : List Nat} (h : compB scope S ⟨rl scope S.scope, vars⟩ sl = true) : CompOk S ⟨rl scope S.scope, vars⟩ scope sl := by
  unfold compB at h
  simp only [Bool.and_eq_true, List.all_eq_true, beq_iff_eq] at h
  obtain ⟨⟨⟨⟨⟨⟨h1, h2⟩, h3⟩, h4⟩, h5⟩, h6⟩, h7⟩ := h
  refine ⟨Sc.ok_of h1, fun env he => ?_, fun y j hm => ?_, fun y j hm => ?_, fun y hm => ?_, fun y hm => ?_, h6, fun y hm hl => ?_⟩
  · show relabel scope env = rl scope S.scope
    unfold relabel rl Env.kindOf
    rw [he]
  · have := h2 _ hm
    simpa using this
  · have := h3 _ hm
    simpa using this
  · have := h4 _ hm
    simp at this
    exact this
  · have := h5 _ hm
    simpa using this
  · have := h7 _ hm
    simpa [hl] using this

theorem bind4d {C : Ctx} {fd : FuncData} {a b c e : Str} {T : Addr} {o : Obj} {items : Array Value} {n : Nat} {k : Value → Value → Value → Value → Option (Array Value) → Sem (List (Str × Value))} (hd : fd.defaults = .ref T) (ho : C.K.lookup T = some o) (hs : o.data = .seq items n)
    (h₁ : ∀ x y z w, bindArgs fd ⟨[x, y, z, w], []⟩ = seqItems? fd.defaults >>= k x y z w) (h₂ : ∀ x y z w, k x y z w (some items) = pure [(a, x), (b, y), (c, z), (e, w)]) :
    ∀ s us, us.length = [a, b, c, e].length → (∀ b o, C.h0.get? b = some o → s.heap.get? b = some o) → BindsTo s fd ⟨us, []⟩ ([a, b, c, e].zip us) := by
  intro s us hl hk
  obtain ⟨x, us0, rfl, hl0⟩ := len_cons hl
  obtain ⟨y, us1, rfl, hl1⟩ := len_cons hl0
  obtain ⟨z, us2, rfl, hl2⟩ := len_cons hl1
  obtain ⟨w, us3, rfl, hl3⟩ := len_cons hl2
  obtain rfl := List.eq_nil_of_length_eq_zero hl3
  exact BindsTo.of_defaults hd (hk _ _ (C.KX _ _ ho)) hs (h₁ x y z w) (h₂ x y z w)
theorem bind3d {C : Ctx} {fd : FuncData} {a b c : Str} {T : Addr} {o : Obj} {items : Array Value} {n : Nat} {k : Value → Value → Value → Option (Array Value) → Sem (List (Str × Value))} (hd : fd.defaults = .ref T) (ho : C.K.lookup T = some o) (hs : o.data = .seq items n)
    (h₁ : ∀ x y z, bindArgs fd ⟨[x, y, z], []⟩ = seqItems? fd.defaults >>= k x y z) (h₂ : ∀ x y z, k x y z (some items) = pure [(a, x), (b, y), (c, z)]) :
    ∀ s us, us.length = [a, b, c].length → (∀ b o, C.h0.get? b = some o → s.heap.get? b = some o) → BindsTo s fd ⟨us, []⟩ ([a, b, c].zip us) := by
  intro s us hl hk
  obtain ⟨x, us0, rfl, hl0⟩ := len_cons hl
  obtain ⟨y, us1, rfl, hl1⟩ := len_cons hl0
  obtain ⟨z, us2, rfl, hl2⟩ := len_cons hl1
  obtain rfl := List.eq_nil_of_length_eq_zero hl2
  exact BindsTo.of_defaults hd (hk _ _ (C.KX _ _ ho)) hs (h₁ x y z) (h₂ x y z)

noncomputable def gNeg : F1 := fun v σ P => ∃ i, v = .int i ∧ P (.int (-i)) σ
end Mine
end

noncomputable section
open PySem PySem.W PyProof.Rows PySem.Calls PySem.Spec
set_option Elab.async false
set_option maxRecDepth 100000
namespace Mine

theorem m0 {α : Type} {a : α} {l : List α} : a ∈ a :: l := .head _
theorem m1 {α : Type} {a b0 : α} {l : List α} : a ∈ b0 :: a :: l := .tail _ m0
theorem m2 {α : Type} {a b0 b1 : α} {l : List α} : a ∈ b0 :: b1 :: a :: l := .tail _ m1
theorem m3 {α : Type} {a b0 b1 b2 : α} {l : List α} : a ∈ b0 :: b1 :: b2 :: a :: l := .tail _ m2
theorem m4 {α : Type} {a b0 b1 b2 b3 : α} {l : List α} : a ∈ b0 :: b1 :: b2 :: b3 :: a :: l := .tail _ m3
theorem m5 {α : Type} {a b0 b1 b2 b3 b4 : α} {l : List α} : a ∈ b0 :: b1 :: b2 :: b3 :: b4 :: a :: l := .tail _ m4
theorem m6 {α : Type} {a b0 b1 b2 b3 b4 b5 : α} {l : List α} : a ∈ b0 :: b1 :: b2 :: b3 :: b4 :: b5 :: a :: l := .tail _ m5
theorem m7 {α : Type} {a b0 b1 b2 b3 b4 b5 b6 : α} {l : List α} : a ∈ b0 :: b1 :: b2 :: b3 :: b4 :: b5 :: b6 :: a :: l := .tail _ m6
theorem m8 {α : Type} {a b0 b1 b2 b3 b4 b5 b6 b7 : α} {l : List α} : a ∈ b0 :: b1 :: b2 :: b3 :: b4 :: b5 :: b6 :: b7 :: a :: l := .tail _ m7
theorem m9 {α : Type} {a b0 b1 b2 b3 b4 b5 b6 b7 b8 : α} {l : List α} : a ∈ b0 :: b1 :: b2 :: b3 :: b4 :: b5 :: b6 :: b7 :: b8 :: a :: l := .tail _ m8
theorem m10 {α : Type} {a b0 b1 b2 b3 b4 b5 b6 b7 b8 b9 : α} {l : List α} : a ∈ b0 :: b1 :: b2 :: b3 :: b4 :: b5 :: b6 :: b7 :: b8 :: b9 :: a :: l := .tail _ m9
theorem m11 {α : Type} {a b0 b1 b2 b3 b4 b5 b6 b7 b8 b9 b10 : α} {l : List α} : a ∈ b0 :: b1 :: b2 :: b3 :: b4 :: b5 :: b6 :: b7 :: b8 :: b9 :: b10 :: a :: l := .tail _ m10
theorem m12 {α : Type} {a b0 b1 b2 b3 b4 b5 b6 b7 b8 b9 b10 b11 : α} {l : List α} : a ∈ b0 :: b1 :: b2 :: b3 :: b4 :: b5 :: b6 :: b7 :: b8 :: b9 :: b10 :: b11 :: a :: l := .tail _ m11
theorem m13 {α : Type} {a b0 b1 b2 b3 b4 b5 b6 b7 b8 b9 b10 b11 b12 : α} {l : List α} : a ∈ b0 :: b1 :: b2 :: b3 :: b4 :: b5 :: b6 :: b7 :: b8 :: b9 :: b10 :: b11 :: b12 :: a :: l := .tail _ m12
theorem m14 {α : Type} {a b0 b1 b2 b3 b4 b5 b6 b7 b8 b9 b10 b11 b12 b13 : α} {l : List α} : a ∈ b0 :: b1 :: b2 :: b3 :: b4 :: b5 :: b6 :: b7 :: b8 :: b9 :: b10 :: b11 :: b12 :: b13 :: a :: l := .tail _ m13
theorem m15 {α : Type} {a b0 b1 b2 b3 b4 b5 b6 b7 b8 b9 b10 b11 b12 b13 b14 : α} {l : List α} : a ∈ b0 :: b1 :: b2 :: b3 :: b4 :: b5 :: b6 :: b7 :: b8 :: b9 :: b10 :: b11 :: b12 :: b13 :: b14 :: a :: l := .tail _ m14
theorem m16 {α : Type} {a b0 b1 b2 b3 b4 b5 b6 b7 b8 b9 b10 b11 b12 b13 b14 b15 : α} {l : List α} : a ∈ b0 :: b1 :: b2 :: b3 :: b4 :: b5 :: b6 :: b7 :: b8 :: b9 :: b10 :: b11 :: b12 :: b13 :: b14 :: b15 :: a :: l := .tail _ m15
theorem m17 {α : Type} {a b0 b1 b2 b3 b4 b5 b6 b7 b8 b9 b10 b11 b12 b13 b14 b15 b16 : α} {l : List α} : a ∈ b0 :: b1 :: b2 :: b3 :: b4 :: b5 :: b6 :: b7 :: b8 :: b9 :: b10 :: b11 :: b12 :: b13 :: b14 :: b15 :: b16 :: a :: l := .tail _ m16

theorem CodeN.mono {C d d' f G} (H : CodeN C d f G) (h : d ≤ d') : CodeN C d' f G := fun A s μ σ as us P R a => H A s μ σ as us P R (a.mono h)

/-- every object lies below the counter -/
noncomputable def WF (σ : St) : Prop := ∀ l o, σ.obj l = some o → l < σ.n

theorem CodeN.weakenW {C d f} {G G' : Fs} (H : CodeN C d f G) (h : ∀ vs σ P, WF σ → G' vs σ P → G vs σ P) : CodeN C d f G' :=
  fun A s μ σ as us P R a Rr r g k => H A s μ σ as us P R a Rr r (h _ _ _ (fun l o e => Rr.lt l o e) g) k

section
variable {C : Ctx} {S : Sc} {d : Nat}

theorem simNeg1 {i k p pos} : SimE C S d (.UnaryOp .USub (.Constant (.int i) k p) pos) (Ex.const (.int (-i))) := by
  constructor
  intro A env s μ ρ σ P Q E p f g
  exact wpAny_UnaryOp (wpAny_Constant_int (PySem.P.neg_int (g.same p.r (.int (-i) _) f _)))

theorem simAppend {o : Expr} {apos pos : Pos} {es fs} {fo : FE} (ho : SimE C S d o fo) (H : SimEs C S d es fs)
    (hbase : ∀ env, attributeBase o "append" env (eval o env) = eval o env := by intro zz1; rfl) (hline : (apos.endLine == pos.line) = true := by decide) (hn : es.length < 20 := by decide) :
    SimE C S d (.Call (.Attribute o "append" apos) es [] pos) (fun ρ σ P => fo ρ σ fun v σ => isList v σ ∧ Ex.evs fs ρ σ fun vs σ => gAppend (v :: vs) σ P) :=
  simMethB ho H isList kind_list F.plainAttrs_list F.slot_list_append F.type_list_append simN_append hbase hline hn
theorem simExtend {o : Expr} {apos pos : Pos} {es fs} {fo : FE} (ho : SimE C S d o fo) (H : SimEs C S d es fs)
    (hbase : ∀ env, attributeBase o "extend" env (eval o env) = eval o env := by intro zz1; rfl) (hline : (apos.endLine == pos.line) = true := by decide) (hn : es.length < 20 := by decide) :
    SimE C S d (.Call (.Attribute o "extend" apos) es [] pos) (fun ρ σ P => fo ρ σ fun v σ => isList v σ ∧ Ex.evs fs ρ σ fun vs σ => gExtendT (v :: vs) σ P) :=
  simMethB ho H isList kind_list F.plainAttrs_list F.slot_list_extend F.type_list_extend simN_extendT hbase hline hn
theorem simPop {o : Expr} {apos pos : Pos} {es fs} {fo : FE} (ho : SimE C S d o fo) (H : SimEs C S d es fs)
    (hbase : ∀ env, attributeBase o "pop" env (eval o env) = eval o env := by intro zz1; rfl) (hline : (apos.endLine == pos.line) = true := by decide) (hn : es.length < 20 := by decide) :
    SimE C S d (.Call (.Attribute o "pop" apos) es [] pos) (fun ρ σ P => fo ρ σ fun v σ => isList v σ ∧ Ex.evs fs ρ σ fun vs σ => gPop (v :: vs) σ P) :=
  simMethB ho H isList kind_list F.plainAttrs_list F.slot_list_pop F.type_list_pop simN_pop hbase hline hn
theorem simGetS {o : Expr} {apos pos : Pos} {es fs} {fo : FE} (ho : SimE C S d o fo) (H : SimEs C S d es fs)
    (hbase : ∀ env, attributeBase o "get" env (eval o env) = eval o env := by intro zz1; rfl) (hline : (apos.endLine == pos.line) = true := by decide) (hn : es.length < 20 := by decide) :
    SimE C S d (.Call (.Attribute o "get" apos) es [] pos) (fun ρ σ P => fo ρ σ fun v σ => isDictS v σ ∧ Ex.evs fs ρ σ fun vs σ => gGet1 (v :: vs) σ P) :=
  simMethB ho H isDictS kind_dictS F.plainAttrs_dict F.slot_dict_get F.type_dict_get simN_get1 hbase hline hn
theorem simGetI {o : Expr} {apos pos : Pos} {es fs} {fo : FE} (ho : SimE C S d o fo) (H : SimEs C S d es fs)
    (hbase : ∀ env, attributeBase o "get" env (eval o env) = eval o env := by intro zz1; rfl) (hline : (apos.endLine == pos.line) = true := by decide) (hn : es.length < 20 := by decide) :
    SimE C S d (.Call (.Attribute o "get" apos) es [] pos) (fun ρ σ P => fo ρ σ fun v σ => isDictI v σ ∧ Ex.evs fs ρ σ fun vs σ => gGet2I (v :: vs) σ P) :=
  simMethB ho H isDictI kind_dictI F.plainAttrs_dict F.slot_dict_get F.type_dict_get simN_get2I hbase hline hn
theorem simGetT {o : Expr} {apos pos : Pos} {es fs} {fo : FE} (ho : SimE C S d o fo) (H : SimEs C S d es fs)
    (hbase : ∀ env, attributeBase o "get" env (eval o env) = eval o env := by intro zz1; rfl) (hline : (apos.endLine == pos.line) = true := by decide) (hn : es.length < 20 := by decide) :
    SimE C S d (.Call (.Attribute o "get" apos) es [] pos) (fun ρ σ P => fo ρ σ fun v σ => isDictT v σ ∧ Ex.evs fs ρ σ fun vs σ => gGet2T (v :: vs) σ P) :=
  simMethB ho H isDictT kind_dictT F.plainAttrs_dict F.slot_dict_get F.type_dict_get simN_get2T hbase hline hn
theorem simSetdI {o : Expr} {apos pos : Pos} {es fs} {fo : FE} (ho : SimE C S d o fo) (H : SimEs C S d es fs)
    (hbase : ∀ env, attributeBase o "setdefault" env (eval o env) = eval o env := by intro zz1; rfl) (hline : (apos.endLine == pos.line) = true := by decide) (hn : es.length < 20 := by decide) :
    SimE C S d (.Call (.Attribute o "setdefault" apos) es [] pos) (fun ρ σ P => fo ρ σ fun v σ => isDictI v σ ∧ Ex.evs fs ρ σ fun vs σ => gSetdI (v :: vs) σ P) :=
  simMethB ho H isDictI kind_dictI F.plainAttrs_dict F.slot_dict_setdefault F.type_dict_setdefault simN_setdI hbase hline hn
theorem simSetdT {o : Expr} {apos pos : Pos} {es fs} {fo : FE} (ho : SimE C S d o fo) (H : SimEs C S d es fs)
    (hbase : ∀ env, attributeBase o "setdefault" env (eval o env) = eval o env := by intro zz1; rfl) (hline : (apos.endLine == pos.line) = true := by decide) (hn : es.length < 20 := by decide) :
    SimE C S d (.Call (.Attribute o "setdefault" apos) es [] pos) (fun ρ σ P => fo ρ σ fun v σ => isDictT v σ ∧ Ex.evs fs ρ σ fun vs σ => gSetdT (v :: vs) σ P) :=
  simMethB ho H isDictT kind_dictT F.plainAttrs_dict F.slot_dict_setdefault F.type_dict_setdefault simN_setdT hbase hline hn
end
end Mine
end

noncomputable section
open PySem PySem.W PyProof.Rows PySem.Calls PySem.Spec
set_option Elab.async false
set_option maxRecDepth 100000
set_option maxHeartbeats 0
set_option linter.all false
namespace Mine

/-- the context, taken apart once -/
theorem forC {Q : Ctx → Prop} (h : ∀ (prog : Program) (w : World) (h0 : Heap) (p : Params) (pp : Program) (loose : List Str) (mg mb : Str → Option Value) (KX : (hd.heap_39 p).In h0) (T : TopRead pp loose mg mb h0), Q ⟨prog, w, h0, hd.heap_39 p, pp, loose, mg, mb, KX, T⟩)
    {C : Ctx} {p : Params} (hC : C.K = hd.heap_39 p) : Q C := by
  obtain ⟨prog, w, h0, K, pp, loose, mg, mb, KX, T⟩ := C
  dsimp only at hC
  subst hC
  exact h ..

theorem toNat_pred (n : Nat) : ((n : Int) - 1).toNat = n - 1 := by (first | lia | omega)
/-! steps without a rewrite of the goal -/
theorem gItemL {l : Nat} {k : Int} {xs : List AV} {σ : St} {P : AV → St → Prop} (e : σ.obj l = some (.list xs)) (h : 0 ≤ k ∧ k < 1000000 ∧ ∃ w, xs[k.toNat]? = some w ∧ P w σ) : gItem (.ref l) (.int k) σ P := by
  unfold gItem; simp only [e]; exact h
theorem gItemI {l : Nat} {k : Int} {kvs : List (Int × AV)} {σ : St} {P : AV → St → Prop} (e : σ.obj l = some (.dI kvs)) (h : ∃ w, look kvs k = some w ∧ P w σ) : gItem (.ref l) (.int k) σ P := by
  unfold gItem; simp only [e]; exact h
theorem gItemS {l : Nat} {x : Str} {kvs : List (Str × AV)} {σ : St} {P : AV → St → Prop} (e : σ.obj l = some (.dS kvs)) (h : ∃ w, look kvs x = some w ∧ P w σ) : gItem (.ref l) (.str x) σ P := by
  unfold gItem; simp only [e]; exact h
theorem gItemT {k : Int} {xs : List AV} {σ : St} {P : AV → St → Prop} (h : 0 ≤ k ∧ k < 1000000 ∧ ∃ w, xs[k.toNat]? = some w ∧ P w σ) : gItem (.tup xs) (.int k) σ P := h
theorem gSetI {l : Nat} {k : Int} {v : AV} {kvs : List (Int × AV)} {σ : St} {P : St → Prop} (e : σ.obj l = some (.dI kvs)) (h : kvs.length ≤ 900 ∧ P (σ.set l (.dI (put kvs k v)))) : gSetItem v (.ref l) (.int k) σ P := by
  unfold gSetItem; simp only [e]; exact h
theorem gSetS {l : Nat} {k : Str} {v : AV} {kvs : List (Str × AV)} {σ : St} {P : St → Prop} (e : σ.obj l = some (.dS kvs)) (h : kvs.length ≤ 900 ∧ P (σ.set l (.dS (put kvs k v)))) : gSetItem v (.ref l) (.str k) σ P := by
  unfold gSetItem; simp only [e]; exact h
theorem gSeqL {l : Nat} {xs : List AV} {σ : St} {K : List AV → (St → Prop) → Prop} (e : σ.obj l = some (.list xs)) (h : K xs (fun σ => σ.obj l = some (.list xs))) : gSeq (.ref l) σ K := by
  unfold gSeq; simp only [e]; exact h
theorem gSeqT {xs : List AV} {σ : St} {K : List AV → (St → Prop) → Prop} (h : K xs (fun zz1 => True)) : gSeq (.tup xs) σ K := h

theorem gItemN {l : Nat} {k : Int} {xs : List AV} {w : AV} {σ : St} {P : AV → St → Prop} (e : σ.obj l = some (.list xs)) (h0 : 0 ≤ k) (h1 : k < 1000000) (hw : xs[k.toNat]? = some w) (q : P w σ) : gItem (.ref l) (.int k) σ P := gItemL e ⟨h0, h1, w, hw, q⟩
theorem i_cutTo {l : Nat} {k : Int} {xs ys : List AV} {σ : St} {P : AV → St → Prop} (hc : cut xs none (some k) = ys) (e : σ.obj l = some (.list xs)) (hz : xs.length ≤ 1000000) (q : P (.ref σ.n) (σ.push (.list ys))) : gSlice (.ref l) .none (.int k) σ P := by
  subst hc; exact ⟨_, _, .none, .int k, xs, e, hz, q⟩
theorem i_cutFrom {l : Nat} {k : Int} {xs ys : List AV} {σ : St} {P : AV → St → Prop} (hc : cut xs (some k) none = ys) (e : σ.obj l = some (.list xs)) (hz : xs.length ≤ 1000000) (q : P (.ref σ.n) (σ.push (.list ys))) : gSlice (.ref l) (.int k) .none σ P := by
  subst hc; exact ⟨_, _, .int k, .none, xs, e, hz, q⟩
theorem i_max {a b m : Int} {σ : St} {P : AV → St → Prop} (h : (if b > a then b else a) = m) (q : P (.int m) σ) : gMax [.int a, .int b] σ P := by subst h; exact ⟨a, b, rfl, q⟩
theorem i_min {a b m : Int} {σ : St} {P : AV → St → Prop} (h : (if b < a then b else a) = m) (q : P (.int m) σ) : gMin [.int a, .int b] σ P := by subst h; exact ⟨a, b, rfl, q⟩
theorem i_attr {c : Addr} {name : Str} {l : Nat} {kvs : List (Str × AV)} {w : AV} {σ : St} {P : AV → St → Prop} (e : σ.obj l = some (.dS kvs)) (h : look kvs name = some w) (q : P w σ) : gAttr c name (.inst c l) σ P := ⟨l, kvs, w, rfl, e, h, q⟩
theorem i_addL {l m : Nat} {xs ys : List AV} {σ : St} {P : AV → St → Prop} (e1 : σ.obj l = some (.list xs)) (e2 : σ.obj m = some (.list ys)) (hz : xs.length + ys.length ≤ 1000000) (q : P (.ref σ.n) (σ.push (.list (xs ++ ys)))) : gAdd (.ref l) (.ref m) σ P := .inr (.inl ⟨l, m, xs, ys, rfl, rfl, e1, e2, hz, q⟩)
theorem i_addI {a b m : Int} {σ : St} {P : AV → St → Prop} (h : a + b = m) (q : P (.int m) σ) : gAdd (.int a) (.int b) σ P := .inl ⟨a, b, rfl, rfl, by rw [h]; exact q⟩
theorem i_subI {a b m : Int} {σ : St} {P : AV → St → Prop} (h : a - b = m) (q : P (.int m) σ) : gSub (.int a) (.int b) σ P := ⟨a, b, rfl, rfl, trivial, by show P (.int (a - b)) σ; rw [h]; exact q⟩

/-- how many of the numbers are at most k -/
noncomputable def cnt (ns : List Int) (k : Int) : Nat := ns.countP (fun x => decide (x ≤ k))
theorem cnt_le (ns : List Int) (k : Int) : cnt ns k ≤ ns.length := List.countP_le_length
theorem cnt_get : ∀ {ns : List Int} {k : Int} {i : Nat} {x : Int}, ns.Pairwise (· < ·) → ns[i]? = some x → (x ≤ k ↔ i < cnt ns k)
  | [], k, i, x, _, e => by simp at e
  | n :: r, k, 0, x, h, e => by
    simp at e
    subst e
    by_cases q : n ≤ k
    · simp [cnt, q]
    · have : cnt (n :: r) k = 0 := by
        rw [cnt, List.countP_eq_zero]
        intro y hy
        rcases List.mem_cons.mp hy with rfl | hy
        · simpa using q
        · have := (List.pairwise_cons.mp h).1 y hy
          simp; (first | lia | omega)
      rw [this]; (first | lia | omega)
  | n :: r, k, i + 1, x, h, e => by
    have e' : r[i]? = some x := by simpa using e
    have ih := cnt_get (k := k) (List.pairwise_cons.mp h).2 e'
    by_cases q : n ≤ k
    · have : cnt (n :: r) k = cnt r k + 1 := by simp [cnt, q]
      rw [this]; (first | lia | omega)
    · have hx := (List.pairwise_cons.mp h).1 x (List.mem_of_getElem? e')
      have : cnt (n :: r) k = 0 := by
        rw [cnt, List.countP_eq_zero]
        intro y hy
        rcases List.mem_cons.mp hy with rfl | hy
        · simpa using q
        · have := (List.pairwise_cons.mp h).1 y hy
          simp; (first | lia | omega)
      rw [this]; (first | lia | omega)

noncomputable def gPlace : Fs := fun vs σ P => ∃ l ns k, vs = [.ref l, .int k] ∧ σ.obj l = some (.list (intsA ns)) ∧ ns.Pairwise (· < ·) ∧ ns.length ≤ 1000 ∧ P (.int ((cnt ns k : Nat) - 1)) σ

theorem i_place {l : Nat} {ns : List Int} {k m : Int} {σ : St} {P : AV → St → Prop} (hm : ((cnt ns k : Nat) : Int) - 1 = m) (e : σ.obj l = some (.list (intsA ns))) (hs : ns.Pairwise (· < ·)) (hn : ns.length ≤ 1000) (q : P (.int m) σ) : gPlace [.ref l, .int k] σ P := by
  subst hm; exact ⟨l, ns, k, rfl, e, hs, hn, q⟩
theorem place_loop {l : Nat} {ns : List Int} {k : Int} {σ : St} (e : σ.obj l = some (.list (intsA ns))) (hs : ns.Pairwise (· < ·)) (hn : ns.length ≤ 1000) {P : Fl → Rho → St → Prop}
    (hP : ∀ ρ, ρ 2 = some (.int (cnt ns k : Nat)) → P .next ρ σ) : ∀ (m lo hi : Nat) (ρ : Rho), hi - lo < m → lo ≤ cnt ns k → cnt ns k ≤ hi → hi ≤ ns.length → ρ 0 = some (.ref l) → ρ 1 = some (.int k) → ρ 2 = some (.int (lo : Nat)) → ρ 3 = some (.int (hi : Nat)) →
    whileL (Bx.cmp gLt (Ex.var 2) (Ex.var 3))
            (Sx.seq (Sx.assign 4 (Ex.op2 gDiv (Ex.op2 gAdd (Ex.var 2) (Ex.var 3)) (Ex.const (AV.int 2))))
              (Sx.ite (Bx.cmp gLe (Ex.op2 gItem (Ex.var 0) (Ex.var 4)) (Ex.var 1))
                (Sx.assign 2 (Ex.op2 gAdd (Ex.var 4) (Ex.const (AV.int 1)))) (Sx.assign 3 (Ex.var 4)))) m ρ σ P := by
  intro m
  induction m with
  | zero => intro lo hi ρ h; (first | lia | omega)
  | succ m ih =>
    intro lo hi ρ hm h1 h2 h3 r0 r1 r2 r3
    refine ⟨_, r2, _, r3, _, _, rfl, rfl, _, rfl, fun hf => ?_, fun ht => ?_⟩
    · have hf := of_decide_eq_false hf
      have : lo = cnt ns k := by (first | lia | omega)
      exact hP ρ (by rw [r2, this])
    · have ht := of_decide_eq_true ht
      have ht' : lo < hi := by (first | lia | omega)
      obtain ⟨mid, hmid, hm1, hm2⟩ : ∃ mid : Nat, ((lo : Int) + (hi : Int)).fdiv 2 = (mid : Int) ∧ lo ≤ mid ∧ mid < hi :=
        ⟨(lo + hi) / 2, by rw [Int.fdiv_eq_ediv_of_nonneg _ (by decide)]; rfl, by clear hm h1 h2 h3; (first | lia | omega), by clear hm h1 h2 h3; (first | lia | omega)⟩
      have hmlt : mid < ns.length := Nat.lt_of_lt_of_le hm2 h3
      have hx : ns[mid]? = some ns[mid] := List.getElem?_eq_getElem hmlt
      have hc := cnt_get (k := k) hs hx
      refine ⟨_, r2, _, r3, .inl ⟨_, _, rfl, rfl, _, _, rfl, rfl, ⟨by decide, by decide⟩, ?_⟩⟩
      dsimp only
      rw [hmid]
      refine ⟨_, r0, _, rfl, ?_⟩
      refine gItemN e (Int.natCast_nonneg _) (by clear hc hm h1 h2; (first | lia | omega)) (w := .int ns[mid]) (by rw [Int.toNat_natCast, List.getElem?_map, hx]; rfl) ?_
      refine ⟨_, r1, _, _, rfl, rfl, _, rfl, fun ht2 => ?_, fun hf2 => ?_⟩
      · have ht2 := hc.mp (of_decide_eq_true ht2)
        clear hc
        refine ⟨_, rfl, .inl ⟨_, _, rfl, rfl, ?_⟩⟩
        refine ih (mid + 1) hi _ (by clear h1 h2 h3 ht2; (first | lia | omega)) ht2 h2 h3 r0 r1 ?_ r3
        show some _ = some _
        congr 2
      · have hf2 := Nat.not_lt.mp fun h => of_decide_eq_false hf2 (hc.mpr h)
        clear hc
        refine ⟨_, rfl, ?_⟩
        exact ih lo mid _ (by clear h1 h2 h3 hf2; (first | lia | omega)) h1 hf2 (Nat.le_of_lt hmlt) r0 r1 r2 rfl

theorem place_code {C : Ctx} {p : Params} (hC : C.K = hd.heap_39 p) : CodeN C 1 (.ref 28) gPlace := by
  refine forC (Q := fun C => CodeN C 1 (.ref 28) gPlace) ?_ hC
  clear hC
  intro prog w h0 p pp loose mg mb KX T
  have hC : (Ctx.mk prog w h0 (hd.heap_39 p) pp loose mg mb KX T).K = hd.heap_39 p := rfl
  clear hC
  refine CodeN.weakenW (codeDef (defOk_of (names := ["firsts", "number"]) (vars := [("firsts", 0, false), ("number", 1, false), ("low", 2, false), ("high", 3, false), ("middle", 4, false)]) rfl rfl rfl rfl rfl rfl rfl (bind2 (fun zz1 zz2 => rfl)))
    (simCons (simAssign simConst_int m2)
    (simCons (simAssign (simCallB rfl rfl rfl (by decide) (.cons (simVar m0) .nil (fun zz1 => rfl)) simN_len) m3)
    (simCons (simWhile (simB_cmp (simVar m2) (simVar m3) sim_lt) (simCons (simAssign (simBin (simBin (simVar m2) (simVar m3) sim_add) simConst_int sim_div) m4)
    (simOne (simIf (simB_cmp (simSub (simVar m0) (simVar m4)) (simVar m1) sim_le) (simOne (simAssign (simBin (simVar m4) simConst_int sim_add) m2)) (simOne (simAssign (simVar m4) m3))))))
    (simOne (simReturn (simBin (simVar m2) simConst_int sim_sub))))))) ?_
  rintro vs σ P wf ⟨l, ns, k, rfl, e, hs, hn, q⟩
  refine ⟨rfl, ?_⟩
  refine ⟨_, rfl, _, ns.length, rfl, by simp [lenA, e], by (first | lia | omega), ns.length + 1, ?_⟩
  refine place_loop e hs hn (fun ρ h => ?_) (ns.length + 1) 0 ns.length _ (by (first | lia | omega)) (by (first | lia | omega)) (cnt_le _ _) (Nat.le_refl _) rfl rfl rfl rfl
  exact ⟨_, h, _, _, rfl, rfl, trivial, q⟩

/-! like each other -/
noncomputable def plainV (v : AV) (σ : St) : Prop := v = .none ∨ isDictS v σ
noncomputable def gLike : Fs := fun vs σ P => ∃ v w t, vs = [v, w] ∧ plainV v σ ∧ plainV w σ ∧ EqR σ v w t ∧ P (.bool t) σ
theorem like_code {C : Ctx} {p : Params} (hC : C.K = hd.heap_39 p) : CodeN C 1 (.ref 33) gLike := by
  refine forC (Q := fun C => CodeN C 1 (.ref 33) gLike) ?_ hC
  clear hC
  intro prog w h0 p pp loose mg mb KX T
  have hC : (Ctx.mk prog w h0 (hd.heap_39 p) pp loose mg mb KX T).K = hd.heap_39 p := rfl
  clear hC
  refine CodeN.weakenW (codeDef (defOk_of (names := ["one", "other"]) (vars := [("one", 0, true), ("other", 1, true)]) rfl rfl rfl rfl rfl rfl rfl (bind2 (fun zz1 zz2 => rfl)))
    (simCons (simIf (simB_and (simB_val (simCallB rfl rfl rfl (by decide) (.cons (simVar m0) (.cons (simBoot rfl rfl rfl (by decide)) .nil (fun zz1 => rfl)) (fun zz1 => rfl)) simN_isTuple)) (simB_val (simCallB rfl rfl rfl (by decide) (.cons (simVar m1) (.cons (simBoot rfl rfl rfl (by decide)) .nil (fun zz1 => rfl)) (fun zz1 => rfl)) simN_isTuple))) (simOne simDeadS) simNil)
    (simOne (simReturn (simAnd2 (simCmp (simVar m0) (simVar m1) sim_eq) (simCmp (simCallB rfl rfl rfl (by decide) (.cons (simVar m0) (.cons (simBoot rfl rfl rfl (by decide)) .nil (fun zz1 => rfl)) (fun zz1 => rfl)) simN_isBool) (simCallB rfl rfl rfl (by decide) (.cons (simVar m1) (.cons (simBoot rfl rfl rfl (by decide)) .nil (fun zz1 => rfl)) (fun zz1 => rfl)) simN_isBool) sim_eq)))))) ?_
  rintro vs σ P wf ⟨v, w, t, rfl, hv, hw, e, q⟩
  refine ⟨rfl, ?_⟩
  refine ⟨_, rfl, _, rfl, hv, ?_⟩
  refine ⟨_, rfl, fun h => (nomatch h), fun zz1 => ⟨fun h => (nomatch h), fun zz1 => ?_⟩⟩
  refine ⟨v, rfl, w, rfl, t, e, t, rfl, fun ht => ?_, fun hf => ?_⟩
  · refine ⟨_, rfl, _, rfl, hv, _, rfl, _, rfl, hw, _, .bool false false, ?_⟩
    subst ht
    exact q
  · subst hf
    exact q
end Mine
end

noncomputable section
open PySem PySem.W PyProof.Rows PySem.Calls PySem.Spec
set_option Elab.async false
set_option maxRecDepth 100000
set_option maxHeartbeats 0
set_option linter.all false
namespace Mine

/-- what a run keeps -/
structure Keeps (W : Nat → Prop) (σ σ' : St) : Prop where
  wf : WF σ'
  le : σ.n ≤ σ'.n
  same : ∀ l, l < σ.n → ¬ W l → σ'.obj l = σ.obj l
noncomputable def NoW : Nat → Prop := fun zz1 => False
theorem Keeps.refl {W σ} (wf : WF σ) : Keeps W σ σ := ⟨wf, Nat.le_refl _, fun zz1 zz2 zz3 => rfl⟩
theorem Keeps.trans {W σ σ' σ''} (x : Keeps W σ σ') (y : Keeps W σ' σ'') : Keeps W σ σ'' :=
  ⟨y.wf, Nat.le_trans x.le y.le, fun l h1 h2 => (y.same l (Nat.lt_of_lt_of_le h1 x.le) h2).trans (x.same l h1 h2)⟩
theorem Keeps.mono {W W' : Nat → Prop} {σ σ'} (x : Keeps W σ σ') (h : ∀ l, l < σ.n → W l → W' l) : Keeps W' σ σ' := ⟨x.wf, x.le, fun l h1 h2 => x.same l h1 fun z => h2 (h l h1 z)⟩
theorem Keeps.off {W : Nat → Prop} {σ σ'} (x : Keeps NoW σ σ') : Keeps W σ σ' := x.mono fun zz1 zz2 z => z.elim
theorem Keeps.pushI {W σ σ' o} (x : Keeps W σ σ') : Keeps W σ (σ'.push o) where
  wf := fun l o' e => by
    simp only [St.push] at e ⊢
    split at e
    · (first | lia | omega)
    · have := x.wf l o' e; (first | lia | omega)
  le := Nat.le_trans x.le (Nat.le_succ _)
  same := fun l h1 h2 => by
    have : l ≠ σ'.n := Nat.ne_of_lt (Nat.lt_of_lt_of_le h1 x.le)
    simp only [St.push, if_neg this]
    exact x.same l h1 h2
theorem Keeps.setI {W : Nat → Prop} {σ σ' k o} (x : Keeps W σ σ') (hk : k < σ'.n) (hw : k < σ.n → W k) : Keeps W σ (σ'.set k o) where
  wf := fun l o' e => by
    simp only [St.set] at e ⊢
    split at e
    · (first | lia | omega)
    · exact x.wf l o' e
  le := x.le
  same := fun l h1 h2 => by
    have : l ≠ k := fun z => h2 (z ▸ hw (z ▸ h1))
    simp only [St.set, if_neg this]
    exact x.same l h1 h2
theorem Keeps.at {W : Nat → Prop} {σ σ' l o} (x : Keeps W σ σ') (wf : WF σ) (e : σ.obj l = some o) (h : ¬ W l) : σ'.obj l = some o := (x.same l (wf l o e) h).trans e

theorem obj_ne {σ : St} {a b : Nat} {x y : AO} (h1 : σ.obj a = some x) (h2 : σ.obj b = some y) (h : x ≠ y) : a ≠ b := fun e => h (by subst e; rw [h1] at h2; cases h2; rfl)

theorem push_old {σ : St} {o x : AO} {k : Nat} (wf : WF σ) (e : σ.obj k = some x) : (σ.push o).obj k = some x := by
  have := wf k x e
  simp only [St.push, if_neg (Nat.ne_of_lt this)]; exact e
theorem push_new {σ : St} {o : AO} : (σ.push o).obj σ.n = some o := by simp [St.push]
theorem set_other {σ : St} {o x : AO} {k l : Nat} (e : σ.obj k = some x) (h : k ≠ l) : (σ.set l o).obj k = some x := by simp only [St.set, if_neg h]; exact e
theorem set_self {σ : St} {o : AO} {l : Nat} : (σ.set l o).obj l = some o := by simp [St.set]
theorem push_wf {σ : St} {o : AO} (wf : WF σ) : WF (σ.push o) := (Keeps.refl (W := NoW) wf).pushI.wf
theorem set_wf {σ : St} {o : AO} {l : Nat} (wf : WF σ) (h : l < σ.n) : WF (σ.set l o) := ((Keeps.refl (W := fun zz1 => True) wf).setI h fun zz1 => trivial).wf

mutual
theorem Dat.mono {σ σ' : St} (h : ∀ y o, σ.obj y = some o → σ'.obj y = some o) : ∀ {v d}, Dat σ v d → Dat σ' v d
  | _, _, .int i => .int i
  | _, _, .tup vs ds r => .tup vs ds (Dats.mono h r)
  | _, _, .list l vs ds e r => .list l vs ds (h _ _ e) (Dats.mono h r)
theorem Dats.mono {σ σ' : St} (h : ∀ y o, σ.obj y = some o → σ'.obj y = some o) : ∀ {v d}, Dats σ v d → Dats σ' v d
  | _, _, .nil => .nil
  | _, _, .cons v vs e es r rs => .cons v vs e es (Dat.mono h r) (Dats.mono h rs)
end
theorem EqR.mono {σ σ' : St} (h : ∀ y o, σ.obj y = some o → σ'.obj y = some o) {v w t} (e : EqR σ v w t) : EqR σ' v w t := by
  cases e with
  | int a b => exact .int a b
  | bool a b => exact .bool a b
  | str a b => exact .str a b
  | none => exact .none
  | noneD l k => obtain ⟨y, kk, q, e⟩ := k; exact .noneD l ⟨y, kk, q, h _ _ e⟩
  | dNone l k => obtain ⟨y, kk, q, e⟩ := k; exact .dNone l ⟨y, kk, q, h _ _ e⟩
  | dd l l' k k' a b hne e1 e2 => exact .dd l l' k k' a b hne (h _ _ e1) (h _ _ e2)
  | dat v w da db h1 h2 h3 h4 h5 => exact .dat v w da db (h1.mono h) (h2.mono h) h3 h4 h5
theorem Keeps.mono' {σ σ' : St} (wf : WF σ) (k : Keeps NoW σ σ') : ∀ y o, σ.obj y = some o → σ'.obj y = some o := fun y o e => k.at wf e (fun z => z)

/-! ### the map of ranges -/
structure RM (σ : St) (l : Nat) (rows : List (Int × AV)) (a b : Nat) : Prop where
  at_ : σ.obj l = some (.dS [("default", .none), ("starts", .ref a), ("values", .ref b)])
  ss : σ.obj a = some (.list (intsA (rows.map (·.1))))
  vs : σ.obj b = some (.list (rows.map (·.2)))
  ab : a ≠ b
theorem RM.keeps {W : Nat → Prop} {σ σ' l rows a b} (x : RM σ l rows a b) (wf : WF σ) (k : Keeps W σ σ') (h : ∀ y, y = l ∨ y = a ∨ y = b → ¬ W y) : RM σ' l rows a b :=
  ⟨k.at wf x.at_ (h l (.inl rfl)), k.at wf x.ss (h a (.inr (.inl rfl))), k.at wf x.vs (h b (.inr (.inr rfl))), x.ab⟩

theorem cls_RangeMap {p} : ClsOk (hd.heap_39 p) 76 := ⟨rfl, rfl, rfl, rfl, rfl, rfl⟩
theorem cls_FoldIndex {p} : ClsOk (hd.heap_39 p) 199 := ⟨rfl, rfl, rfl, rfl, rfl, rfl⟩
theorem cls_Data {p} : ClsOk (hd.heap_39 p) 248 := ⟨rfl, rfl, rfl, rfl, rfl, rfl⟩
theorem glob_MAX_CODE {C : Ctx} {tk : Tok} : ∀ (n : Nat) (μ : Nat → Addr) (h : Heap), (∀ a o, C.h0.get? a = some o → h.get? a = some o) → VRep C.h0 n μ h (.int 1114111) (.int 1114111 tk) := fun zz1 zz2 zz3 zz4 => .int _ _

noncomputable def gRMInit : Fs := fun vs σ P => ∃ l, vs = [.inst 76 l, .none] ∧ σ.obj l = some (.dS []) ∧ ∀ σ' a b, Keeps (fun y => y = l) σ σ' → σ.n ≤ a → σ.n ≤ b → RM σ' l [(0, .none)] a b → P .none σ'
theorem rm_init {C : Ctx} {p : Params} (hC : C.K = hd.heap_39 p) : CodeN C 1 (.ref 47) gRMInit := by
  refine forC (Q := fun C => CodeN C 1 (.ref 47) gRMInit) ?_ hC
  clear hC
  intro prog w h0 p pp loose mg mb KX T
  have hC : (Ctx.mk prog w h0 (hd.heap_39 p) pp loose mg mb KX T).K = hd.heap_39 p := rfl
  clear hC
  refine CodeN.weakenW (codeDef (defOk_of (names := ["self", "default"]) (vars := [("self", 0, false), ("default", 1, false)]) rfl rfl rfl rfl rfl rfl rfl (bind2 (fun zz1 zz2 => rfl)))
    (simCons (simAssignT (simVar m1) (simT_attr (simVar m0) cls_RangeMap rfl))
    (simCons (simAssignT (simList (.cons simConst_int .nil (fun zz1 => rfl))) (simT_attr (simVar m0) cls_RangeMap rfl))
    (simOne (simAssignT (simList (.cons (simVar m1) .nil (fun zz1 => rfl))) (simT_attr (simVar m0) cls_RangeMap rfl)))))) ?_
  rintro vs σ P wf ⟨l, rfl, e, q⟩
  have hl := wf l _ e
  refine ⟨rfl, ?_⟩
  refine ⟨_, rfl, _, rfl, l, _, rfl, e, Nat.le_of_ble_eq_true rfl, ?_⟩
  refine ⟨_, rfl, l, _, rfl, push_old (set_wf wf hl) set_self, Nat.le_of_ble_eq_true rfl, ?_⟩
  refine ⟨_, rfl, _, rfl, l, _, rfl, push_old (set_wf (push_wf (set_wf wf hl)) (Nat.lt_succ_of_lt hl)) set_self, Nat.le_of_ble_eq_true rfl, ?_⟩
  refine q _ σ.n (σ.n + 1) (((((Keeps.refl (W := fun y => y = l) wf).setI hl fun zz1 => rfl).pushI.setI (Nat.lt_succ_of_lt hl) fun zz1 => rfl).pushI).setI (Nat.lt_succ_of_lt (Nat.lt_succ_of_lt hl)) fun zz1 => rfl) (Nat.le_refl _) (Nat.le_succ _) ⟨?_, ?_, ?_, ?_⟩
  · simp [St.set]; rfl
  · have h1 : σ.n ≠ l := Nat.ne_of_gt hl
    simp (disch := (first | lia | omega)) only [St.set, St.push, if_neg, if_pos]; rfl
  · have h1 : σ.n + 1 ≠ l := by (first | lia | omega)
    simp (disch := (first | lia | omega)) only [St.set, St.push, if_neg, if_pos]; rfl
  · (first | lia | omega)
end Mine
end

noncomputable section
open PySem PySem.W PyProof.Rows PySem.Calls PySem.Spec
set_option Elab.async false
set_option maxRecDepth 100000
set_option maxHeartbeats 0
set_option linter.all false
namespace Mine

noncomputable def gRMGet : Fs := fun vs σ P => ∃ l rows a b c x, vs = [.inst 76 l, .int c] ∧ RM σ l rows a b ∧ (rows.map (·.1)).Pairwise (· < ·) ∧ rows.length ≤ 1000 ∧ 0 < cnt (rows.map (·.1)) c ∧ rows[cnt (rows.map (·.1)) c - 1]? = some x ∧ P x.2 σ

theorem rm_get {C : Ctx} {p : Params} (hC : C.K = hd.heap_39 p) : CodeN C 2 (.ref 54) gRMGet := by
  refine forC (Q := fun C => CodeN C 2 (.ref 54) gRMGet) ?_ hC
  clear hC
  intro prog w h0 p pp loose mg mb KX T
  have hC : (Ctx.mk prog w h0 (hd.heap_39 p) pp loose mg mb KX T).K = hd.heap_39 p := rfl
  have h_place_by_half := place_code hC
  clear hC
  refine CodeN.weakenW (codeDef (defOk_of (names := ["self", "code"]) (vars := [("self", 0, false), ("code", 1, false)]) rfl rfl rfl rfl rfl rfl rfl (bind2 (fun zz1 zz2 => rfl)))
    (simOne (simReturn (simSub (simAttr (simVar m0) cls_RangeMap rfl) (simCallFn rfl rfl rfl (.cons (simAttr (simVar m0) cls_RangeMap rfl) (.cons (simVar m1) .nil (fun zz1 => rfl)) (fun zz1 => rfl)) h_place_by_half.simN))))) ?_
  rintro vs σ P wf ⟨l, rows, a, b, c, x, rfl, R, hs, hn, h0, hx, q⟩
  refine ⟨rfl, ?_⟩
  refine ⟨_, rfl, l, _, _, rfl, R.at_, rfl, ?_⟩
  refine ⟨_, rfl, l, _, _, rfl, R.at_, rfl, ?_⟩
  refine ⟨_, rfl, a, _, c, rfl, R.ss, hs, by simpa using hn, ?_⟩
  refine gItemL (R.vs) ?_
  try dsimp only
  refine ⟨by (first | lia | omega), by have := cnt_le (rows.map (·.1)) c; simp at this; (first | lia | omega), x.2, ?_, q⟩
  rw [toNat_pred, List.getElem?_map, hx]; rfl

noncomputable def gRMPut : Fs := fun vs σ P => ∃ l rows base b0 s0 u a b c v, vs = [.inst 76 l, .int c, .int c, v] ∧ RM σ l rows a b ∧ base = b0 ++ [(s0, u)] ∧ ((rows = base ∧ u = .none) ∨ rows = base ++ [(c, .none)]) ∧ (base.map (·.1)).Pairwise (· < ·) ∧ (∀ x ∈ base, x.1 < c) ∧
  plainV u σ ∧ EqR σ u v false ∧ isDictS v σ ∧ 0 ≤ c ∧ c < 1114111 ∧ base.length ≤ 400 ∧
  ∀ σ' a' b', Keeps (fun y => y = l) σ σ' → σ.n ≤ a' → σ.n ≤ b' → RM σ' l (base ++ [(c, v), (c + 1, .none)]) a' b' → P .none σ'

theorem cnt_all {ns : List Int} {k : Int} (h : ∀ x ∈ ns, x ≤ k) : cnt ns k = ns.length := by
  rw [cnt, List.countP_eq_length]
  intro x hx
  simpa using h x hx
theorem cnt_app (a b : List Int) (k : Int) : cnt (a ++ b) k = cnt a k + cnt b k := by simp [cnt]
theorem cut_take (xs : List AV) (k : Nat) (h : k ≤ xs.length) : cut xs none (some (k : Int)) = xs.take k := by
  unfold cut
  simp only [Option.elim, clipAt_nat, List.drop_zero, Nat.sub_zero, Nat.min_eq_left h]
theorem cut_drop (xs : List AV) (k : Nat) (h : k ≤ xs.length) : cut xs (some (k : Int)) none = xs.drop k := by
  unfold cut
  simp only [Option.elim, clipAt_nat, Nat.min_eq_left h]
  rw [List.take_of_length_le (by simp)]

/-- a list is put together of three, and stored -/
structure Cat (W : Nat → Prop) (σ0 σ : St) (l : Nat) (o x4 : AO) (σ' : St) : Prop where
  keeps : Keeps W σ0 σ'
  n_ : σ'.n = σ.n + 4
  at_ : σ'.obj l = some o
  new : σ'.obj (σ.n + 3) = some x4
  other : ∀ y x, y ≠ l → σ.obj y = some x → σ'.obj y = some x
theorem catStep {W : Nat → Prop} {σ0 σ : St} {l : Nat} {o x1 x2 x3 x4 : AO} (K : Keeps W σ0 σ) (hl : l < σ.n) (hw : W l) : Cat W σ0 σ l o x4 (((((σ.push x1).push x2).push x3).push x4).set l o) := by
  have w1 := push_wf (o := x1) K.wf
  have w2 := push_wf (o := x2) w1
  have w3 := push_wf (o := x3) w2
  refine ⟨K.pushI.pushI.pushI.pushI.setI (show l < σ.n + 1 + 1 + 1 + 1 by (first | lia | omega)) fun zz1 => hw, rfl, set_self, ?_, fun y x hy e => set_other (push_old w3 (push_old w2 (push_old w1 (push_old K.wf e)))) hy⟩
  exact set_other (k := σ.n + 3) (push_new (σ := ((σ.push x1).push x2).push x3)) (by (first | lia | omega))

theorem rm_put {C : Ctx} {p : Params} (hC : C.K = hd.heap_39 p) : CodeN C 2 (.ref 61) gRMPut := by
  refine forC (Q := fun C => CodeN C 2 (.ref 61) gRMPut) ?_ hC
  clear hC
  intro prog w h0 p pp loose mg mb KX T
  have hC : (Ctx.mk prog w h0 (hd.heap_39 p) pp loose mg mb KX T).K = hd.heap_39 p := rfl
  have h_place_by_half := place_code hC
  have h_range_are_like := like_code hC
  clear hC
  refine CodeN.weakenW (codeDef (defOk_of (names := ["self", "first", "last", "value"]) (vars := [("self", 0, false), ("first", 1, false), ("last", 2, false), ("value", 3, false), ("low", 4, false), ("high", 5, false), ("behind", 6, false), ("starts", 7, false), ("values", 8, false)]) rfl rfl rfl rfl rfl rfl rfl (bind4 (fun zz1 zz2 zz3 zz4 => rfl)))
    (simCons (simSwap (ns := ["first", "last"]) (is := [1, 2]) (simTup (.cons (simCallB rfl rfl rfl (by decide) (.cons (simVar m1) (.cons simConst_int .nil (fun zz1 => rfl)) (fun zz1 => rfl)) simN_max) (.cons (simCallB rfl rfl rfl (by decide) (.cons (simVar m2) (.cons (simGlob rfl rfl glob_MAX_CODE) .nil (fun zz1 => rfl)) (fun zz1 => rfl)) simN_min) .nil (fun zz1 => rfl)) (fun zz1 => rfl))) (by intro j x i h1 h2; match j, h1, h2 with | 0, h1, h2 => cases h1; cases h2; exact ⟨_, m2⟩ | 1, h1, h2 => cases h1; cases h2; exact ⟨_, m1⟩ | _ + 2, h1, h2 => cases h1) rfl (hw := by intro env h; cases env; cases h; rfl))
    (simCons (simIf (simB_cmp (simVar m1) (simVar m2) sim_gt) (simOne simReturn0) simNil)
    (simCons (simAssign (simBin (simCallFn rfl rfl rfl (.cons (simAttr (simVar m0) cls_RangeMap rfl) (.cons (simBin (simVar m1) simConst_int sim_sub) .nil (fun zz1 => rfl)) (fun zz1 => rfl)) h_place_by_half.simN) simConst_int sim_add) m4)
    (simCons (simAssign (simBin (simCallFn rfl rfl rfl (.cons (simAttr (simVar m0) cls_RangeMap rfl) (.cons (simBin (simVar m2) simConst_int sim_add) .nil (fun zz1 => rfl)) (fun zz1 => rfl)) h_place_by_half.simN) simConst_int sim_add) m5)
    (simCons (simAssign (simSub (simAttr (simVar m0) cls_RangeMap rfl) (simBin (simVar m5) simConst_int sim_sub)) m6)
    (simCons (simSwap (ns := ["starts", "values"]) (is := [7, 8]) (simTup (.cons (simList (.cons (simVar m1) .nil (fun zz1 => rfl))) (.cons (simList (.cons (simVar m3) .nil (fun zz1 => rfl))) .nil (fun zz1 => rfl)) (fun zz1 => rfl))) (by intro j x i h1 h2; match j, h1, h2 with | 0, h1, h2 => cases h1; cases h2; exact ⟨_, m8⟩ | 1, h1, h2 => cases h1; cases h2; exact ⟨_, m7⟩ | _ + 2, h1, h2 => cases h1) rfl (hw := by intro env h; cases env; cases h; rfl))
    (simCons (simIf (simB_and (simB_cmp (simVar m2) (simGlob rfl rfl glob_MAX_CODE) sim_lt) (simB_not (simB_val (simCallFn rfl rfl rfl (.cons (simVar m6) (.cons (simVar m3) .nil (fun zz1 => rfl)) (fun zz1 => rfl)) h_range_are_like.simN)))) (simCons (simExpr (simAppend (simVar m7) (.cons (simBin (simVar m2) simConst_int sim_add) .nil (fun zz1 => rfl))))
    (simOne (simExpr (simAppend (simVar m8) (.cons (simVar m6) .nil (fun zz1 => rfl)))))) simNil)
    (simCons (simIf (simB_and (simB_cmp (simVar m4) simConst_int sim_gt) (simB_val (simCallFn rfl rfl rfl (.cons (simSub (simAttr (simVar m0) cls_RangeMap rfl) (simBin (simVar m4) simConst_int sim_sub)) (.cons (simVar m3) .nil (fun zz1 => rfl)) (fun zz1 => rfl)) h_range_are_like.simN))) (simOne simDeadS) simNil)
    (simCons (simAssignT (simBin (simBin (simSlice (simAttr (simVar m0) cls_RangeMap rfl) simP_none (simP_some (simVar m4))) (simVar m7) sim_add) (simSlice (simAttr (simVar m0) cls_RangeMap rfl) (simP_some (simVar m5)) simP_none) sim_add) (simT_attr (simVar m0) cls_RangeMap rfl))
    (simOne (simAssignT (simBin (simBin (simSlice (simAttr (simVar m0) cls_RangeMap rfl) simP_none (simP_some (simVar m4))) (simVar m8) sim_add) (simSlice (simAttr (simVar m0) cls_RangeMap rfl) (simP_some (simVar m5)) simP_none) sim_add) (simT_attr (simVar m0) cls_RangeMap rfl))))))))))))) ?_
  rintro vs σ P wf ⟨l, rows, base, b0, s0, u, a, b, c, v, rfl, R, hbase, hrows, hs, hlt, hu, heq, hv, hc0, hc1, hn, q⟩
  have hbl : base.length = b0.length + 1 := by rw [hbase]; simp
  have hrl : rows.length = base.length ∨ rows.length = base.length + 1 := by rcases hrows with ⟨rfl, _⟩ | rfl <;> simp
  have hrs : (rows.map (·.1)).Pairwise (· < ·) := by
    rcases hrows with ⟨rfl, _⟩ | rfl
    · exact hs
    · rw [List.map_append, List.pairwise_append]
      refine ⟨hs, by simp, ?_⟩
      intro x hx y hy
      simp at hy
      subst hy
      obtain ⟨z, hz, rfl⟩ := List.mem_map.mp hx
      exact hlt z hz
  have hlow : cnt (rows.map (·.1)) (c - 1) = base.length := by
    have hb : cnt (base.map (·.1)) (c - 1) = base.length := by
      rw [cnt_all, List.length_map]
      intro x hx
      obtain ⟨z, hz, rfl⟩ := List.mem_map.mp hx
      have := hlt z hz; (first | lia | omega)
    rcases hrows with ⟨rfl, _⟩ | rfl
    · exact hb
    · rw [List.map_append, cnt_app, hb]
      simp [cnt]
      (first | lia | omega)
  have hhigh : cnt (rows.map (·.1)) (c + 1) = rows.length := by
    have hb : cnt (base.map (·.1)) (c + 1) = base.length := by
      rw [cnt_all, List.length_map]
      intro x hx
      obtain ⟨z, hz, rfl⟩ := List.mem_map.mp hx
      have := hlt z hz; (first | lia | omega)
    rcases hrows with ⟨rfl, _⟩ | rfl
    · exact hb
    · rw [List.map_append, cnt_app, hb]
      simp [cnt]
      (first | lia | omega)
  have hlast : (rows.map (·.2))[rows.length - 1]? = some .none := by
    rcases hrows with ⟨rfl, rfl⟩ | rfl
    · rw [hbase]; simp
    · simp
  have hprev : (rows.map (·.2))[base.length - 1]? = some u := by
    have : base.length - 1 = b0.length := by (first | lia | omega)
    rw [this]
    rcases hrows with ⟨rfl, _⟩ | rfl <;> rw [hbase] <;> simp
  have htake1 : (rows.map (·.1)).take base.length = base.map (·.1) := by
    rcases hrows with ⟨rfl, _⟩ | rfl
    · rw [List.take_of_length_le (by simp)]
    · rw [List.map_append, List.take_left' (by simp)]
  have htake2 : (rows.map (·.2)).take base.length = base.map (·.2) := by
    rcases hrows with ⟨rfl, _⟩ | rfl
    · rw [List.take_of_length_le (by simp)]
    · rw [List.map_append, List.take_left' (by simp)]
  have hb1 : 1 ≤ base.length := by clear hrl; (first | lia | omega)
  have hr1 : base.length ≤ rows.length := by rcases hrl with h | h <;> (first | lia | omega)
  have hr2 : rows.length ≤ 401 := by rcases hrl with h | h <;> (first | lia | omega)
  clear hrl hbl
  have hl := wf l _ R.at_
  have ha := wf a _ R.ss
  have hb := wf b _ R.vs
  have nla : l ≠ a := obj_ne R.at_ R.ss (by simp)
  have nlb : l ≠ b := obj_ne R.at_ R.vs (by simp)
  refine ⟨rfl, ?_⟩
  have e1 : (if (0 : Int) > c then (0 : Int) else c) = c := by rw [if_neg (by (first | lia | omega))]
  have e2 : (if (1114111 : Int) < c then (1114111 : Int) else c) = c := by rw [if_neg (by (first | lia | omega))]
  refine ⟨_, rfl, i_max e1 ⟨_, rfl, i_min e2 ?_⟩⟩
  clear e1 e2
  refine ⟨_, rfl, rfl, _, rfl, _, rfl, _, _, rfl, rfl, _, rfl, fun h => absurd (of_decide_eq_true h) (by (first | lia | omega)), fun zz1 => ?_⟩
  -- low, high, behind
  refine ⟨_, rfl, i_attr R.at_ rfl ⟨_, rfl, i_subI rfl (i_place (m := (base.length : Int) - 1) (by rw [hlow]) R.ss hrs (by rw [List.length_map]; (first | lia | omega)) (i_addI (m := (base.length : Int)) (by (first | lia | omega)) ?_))⟩⟩
  clear hlow
  refine ⟨_, rfl, i_attr R.at_ rfl ⟨_, rfl, i_addI rfl (i_place (m := (rows.length : Int) - 1) (by rw [hhigh]) R.ss hrs (by rw [List.length_map]; (first | lia | omega)) (i_addI (m := (rows.length : Int)) (by (first | lia | omega)) ?_))⟩⟩
  clear hhigh
  refine ⟨_, rfl, i_attr R.at_ rfl ⟨_, rfl, i_subI (m := (rows.length : Int) - 1) rfl (gItemN R.vs (by (first | lia | omega)) (by (first | lia | omega)) (w := .none) (by rw [toNat_pred]; exact hlast) ?_)⟩⟩
  obtain ⟨lv, kvs, rfl, ev⟩ := hv
  refine ⟨_, rfl, _, rfl, _, rfl, rfl, ?_⟩
  have K2 : Keeps NoW σ ((σ.push (.list [.int c])).push (.list [.ref lv])) := (Keeps.refl wf).pushI.pushI
  have eA : ((σ.push (.list [.int c])).push (.list [.ref lv])).obj σ.n = some (.list [.int c]) := push_old (push_wf wf) push_new
  have eB : ((σ.push (.list [.int c])).push (.list [.ref lv])).obj (σ.n + 1) = some (.list [.ref lv]) := push_new
  have hn2 : ((σ.push (.list [.int c])).push (.list [.ref lv])).n = σ.n + 2 := rfl
  have hA : (σ.push (AO.list [.int c])).n = σ.n + 1 := rfl
  rw [hA]
  generalize hS2 : (σ.push (.list [.int c])).push (.list [.ref lv]) = σ2 at K2 eA eB hn2 ⊢
  clear hS2 hA
  have ev2 := K2.at wf ev (fun z => z)
  refine ⟨_, rfl, _, _, rfl, rfl, _, rfl, fun zz1 => ?_, fun h => absurd (of_decide_eq_false h) (by (first | lia | omega))⟩
  refine ⟨_, rfl, _, rfl, _, _, false, rfl, .inl rfl, .inr ⟨_, _, rfl, ev2⟩, .noneD _ ⟨_, _, rfl, ev2⟩, _, rfl, fun zz1 => ?_, fun h => nomatch h⟩
  -- two appends
  refine ⟨_, rfl, ⟨_, _, rfl, eA⟩, _, rfl, .inl ⟨_, _, rfl, rfl, _, _, _, rfl, eA, Nat.le_of_ble_eq_true rfl, rfl, ?_⟩⟩
  have hA2 : σ.n < σ2.n := by (first | lia | omega)
  have K3 : Keeps NoW σ (σ2.set σ.n (.list ([.int c] ++ [.int (c + 1)]))) := K2.setI hA2 (fun h => absurd h (Nat.lt_irrefl _))
  have eB3 := set_other (o := .list ([.int c] ++ [.int (c + 1)])) eB (show σ.n + 1 ≠ σ.n by (first | lia | omega))
  have eA3 : (σ2.set σ.n (.list ([.int c] ++ [.int (c + 1)]))).obj σ.n = _ := set_self
  have hn3 : (σ2.set σ.n (.list ([.int c] ++ [.int (c + 1)]))).n = σ.n + 2 := hn2
  generalize σ2.set σ.n (.list ([.int c] ++ [.int (c + 1)])) = σ3 at K3 eB3 eA3 hn3 ⊢
  refine ⟨_, rfl, ⟨_, _, rfl, eB3⟩, _, rfl, _, _, _, rfl, eB3, Nat.le_of_ble_eq_true rfl, rfl, ?_⟩
  have K4 : Keeps NoW σ (σ3.set (σ.n + 1) (.list ([.ref lv] ++ [.none]))) := K3.setI (by (first | lia | omega)) (fun h => absurd h (by (first | lia | omega)))
  have eA4 := set_other (o := .list ([.ref lv] ++ [.none])) eA3 (show σ.n ≠ σ.n + 1 by (first | lia | omega))
  have eB4 : (σ3.set (σ.n + 1) (.list ([.ref lv] ++ [.none]))).obj (σ.n + 1) = _ := set_self
  have hn4 : (σ3.set (σ.n + 1) (.list ([.ref lv] ++ [.none]))).n = σ.n + 2 := hn3
  generalize σ3.set (σ.n + 1) (.list ([.ref lv] ++ [.none])) = σ4 at K4 eA4 eB4 hn4 ⊢
  have R4 : RM σ4 l rows a b := R.keeps wf K4 fun zz1 zz2 z => z
  have ev4 := K4.at wf ev (fun z => z)
  have mono4 : ∀ y o, σ.obj y = some o → σ4.obj y = some o := fun y o e => K4.at wf e (fun z => z)
  have hu4 : plainV u σ4 := by
    rcases hu with rfl | ⟨y, kk, rfl, e⟩
    · exact .inl rfl
    · exact .inr ⟨_, _, rfl, mono4 _ _ e⟩
  have heq4 : EqR σ4 u (.ref lv) false := heq.mono mono4
  -- the row before
  refine ⟨_, rfl, _, _, rfl, rfl, _, rfl, fun zz1 => ?_, fun h => absurd (of_decide_eq_false h) (by (first | lia | omega))⟩
  refine ⟨_, rfl, i_attr R4.at_ rfl ⟨_, rfl, i_subI (m := (base.length : Int) - 1) rfl (gItemN R4.vs (by (first | lia | omega)) (by (first | lia | omega)) (w := u) (by rw [toNat_pred]; exact hprev) ?_)⟩⟩
  refine ⟨_, rfl, _, _, false, rfl, hu4, .inr ⟨_, _, rfl, ev4⟩, heq4, _, rfl, ⟨fun h => (nomatch h), fun zz1 => ?_⟩⟩
  -- self.starts
  have hzs : (intsA (rows.map (·.1))).length = rows.length := by simp
  have hzv : (rows.map (·.2)).length = rows.length := by simp
  have c1 : cut (intsA (rows.map (·.1))) none (some (base.length : Int)) = intsA (base.map (·.1)) := by
    rw [cut_take _ _ (by rw [hzs]; (first | lia | omega)), ← htake1]; simp [intsA]
  have c2 : cut (intsA (rows.map (·.1))) (some (rows.length : Int)) none = [] := by
    rw [cut_drop _ _ (by rw [hzs]; exact Nat.le_refl _)]; simp
  have c3 : cut (rows.map (·.2)) none (some (base.length : Int)) = base.map (·.2) := by
    rw [cut_take _ _ (by rw [hzv]; (first | lia | omega)), ← htake2]
  have c4 : cut (rows.map (·.2)) (some (rows.length : Int)) none = [] := by
    rw [cut_drop _ _ (by rw [hzv]; exact Nat.le_refl _)]; simp
  have wf4 := K4.wf
  refine ⟨_, rfl, i_attr R4.at_ rfl ⟨_, rfl, i_cutTo c1 R4.ss (by rw [hzs]; (first | lia | omega)) ?_⟩⟩
  have w5 := push_wf (o := .list (intsA (base.map (·.1)))) wf4
  refine ⟨_, rfl, i_addL push_new (push_old wf4 eA4) (by simp; (first | lia | omega)) ?_⟩
  have w6 := push_wf (o := .list (intsA (base.map (·.1)) ++ ([.int c] ++ [.int (c + 1)]))) w5
  refine ⟨_, rfl, i_attr (push_old w5 (push_old wf4 R4.at_)) rfl ⟨_, rfl, i_cutFrom c2 (push_old w5 (push_old wf4 R4.ss)) (by rw [hzs]; (first | lia | omega)) ?_⟩⟩
  have w7 := push_wf (o := .list []) w6
  refine i_addL (push_old w6 push_new) push_new (by simp; (first | lia | omega)) ?_
  have w8 := push_wf (o := .list (intsA (base.map (·.1)) ++ ([.int c] ++ [.int (c + 1)]) ++ [])) w7
  refine ⟨_, rfl, l, _, rfl, push_old w7 (push_old w6 (push_old w5 (push_old wf4 R4.at_))), Nat.le_of_ble_eq_true rfl, ?_⟩
  have cat1 : Cat (fun y => y = l) σ σ4 l (.dS [("default", .none), ("starts", .ref (σ4.n + 3)), ("values", .ref b)]) (.list (intsA (base.map (·.1)) ++ ([.int c] ++ [.int (c + 1)]) ++ []))
      (((((σ4.push (.list (intsA (base.map (·.1))))).push (.list (intsA (base.map (·.1)) ++ ([.int c] ++ [.int (c + 1)])))).push (.list [])).push (.list (intsA (base.map (·.1)) ++ ([.int c] ++ [.int (c + 1)]) ++ []))).set l
      (.dS (put [("default", .none), ("starts", .ref a), ("values", .ref b)] "starts" (.ref (((σ4.push (.list (intsA (base.map (·.1))))).push (.list (intsA (base.map (·.1)) ++ ([.int c] ++ [.int (c + 1)])))).push (.list [])).n)))) := catStep K4.off (by (first | lia | omega)) rfl
  generalize ((((σ4.push (.list (intsA (base.map (·.1))))).push (.list (intsA (base.map (·.1)) ++ ([.int c] ++ [.int (c + 1)])))).push (.list [])).push (.list (intsA (base.map (·.1)) ++ ([.int c] ++ [.int (c + 1)]) ++ []))).set l
      (.dS (put [("default", .none), ("starts", .ref a), ("values", .ref b)] "starts" (.ref (((σ4.push (.list (intsA (base.map (·.1))))).push (.list (intsA (base.map (·.1)) ++ ([.int c] ++ [.int (c + 1)])))).push (.list [])).n))) = σ8 at cat1 ⊢
  have wf8 := cat1.keeps.wf
  have f3 := cat1.other _ _ (show σ.n + 1 ≠ l by (first | lia | omega)) eB4
  have f4 := cat1.other _ _ (Ne.symm nlb) R4.vs
  have hn8 := cat1.n_
  clear w5 w6 w7 w8
  -- self.values
  refine ⟨_, rfl, i_attr cat1.at_ rfl ⟨_, rfl, i_cutTo c3 f4 (by rw [hzv]; (first | lia | omega)) ?_⟩⟩
  have w9 := push_wf (o := .list (base.map (·.2))) wf8
  refine ⟨_, rfl, i_addL push_new (push_old wf8 f3) (by simp; (first | lia | omega)) ?_⟩
  have w10 := push_wf (o := .list (base.map (·.2) ++ ([.ref lv] ++ [.none]))) w9
  refine ⟨_, rfl, i_attr (push_old w9 (push_old wf8 cat1.at_)) rfl ⟨_, rfl, i_cutFrom c4 (push_old w9 (push_old wf8 f4)) (by rw [hzv]; (first | lia | omega)) ?_⟩⟩
  have w11 := push_wf (o := .list []) w10
  refine i_addL (push_old w10 push_new) push_new (by simp; (first | lia | omega)) ?_
  refine ⟨_, rfl, l, _, rfl, push_old w11 (push_old w10 (push_old w9 (push_old wf8 cat1.at_))), Nat.le_of_ble_eq_true rfl, ?_⟩
  have cat2 := fun o => catStep (x1 := .list (base.map (·.2))) (x2 := .list (base.map (·.2) ++ ([.ref lv] ++ [.none]))) (x3 := .list []) (x4 := .list (base.map (·.2) ++ ([.ref lv] ++ [.none]) ++ [])) (o := o) cat1.keeps (show l < σ8.n by (first | lia | omega)) rfl
  refine q _ (σ4.n + 3) (σ8.n + 3) (cat2 _).keeps (by (first | lia | omega)) (by (first | lia | omega)) ⟨(cat2 _).at_, ((cat2 _).other _ _ (show σ4.n + 3 ≠ l by (first | lia | omega)) cat1.new).trans ?_, (cat2 _).new.trans ?_, by (first | lia | omega)⟩
  · simp
  · simp
end Mine
end

noncomputable section
open PySem PySem.W PyProof.Rows PySem.Calls PySem.Spec
set_option Elab.async false
set_option maxRecDepth 100000
set_option maxHeartbeats 0
set_option linter.all false
namespace Mine

theorem forL_inv {T : FT} {body : FS} {ok : St → Prop} {P : Fl → Rho → St → Prop} (vs : List AV) (I : Nat → Rho → St → Prop) (Rt : AV → Rho → St → Prop)
    (step : ∀ i v ρ σ (Q : Fl → Rho → St → Prop), vs[i]? = some v → I i ρ σ → (∀ ρ' σ', I (i + 1) ρ' σ' → ok σ' → Q .next ρ' σ' ∧ Q .cont ρ' σ') → (∀ w ρ' σ', Rt w ρ' σ' → Q (.ret w) ρ' σ') → T v ρ σ fun ρ σ => body ρ σ Q)
    (fin : ∀ ρ σ, I vs.length ρ σ → P .next ρ σ) (finR : ∀ w ρ σ, Rt w ρ σ → P (.ret w) ρ σ) : ∀ (n i : Nat) ρ σ, i + n = vs.length → I i ρ σ → forL T body ok (vs.drop i) ρ σ P := by
  intro n
  induction n with
  | zero =>
    intro i ρ σ h hI
    have : i = vs.length := by (first | lia | omega)
    subst this
    rw [List.drop_length]
    exact fin ρ σ hI
  | succ n ih =>
    intro i ρ σ h hI
    have hlt : i < vs.length := by (first | lia | omega)
    rw [List.drop_eq_getElem_cons hlt]
    refine step i vs[i] ρ σ _ (List.getElem?_eq_getElem hlt) hI (fun ρ' σ' h1 h2 => ?_) (fun w ρ' σ' h1 => finR w ρ' σ' h1)
    exact ⟨⟨h2, ih (i + 1) ρ' σ' (by (first | lia | omega)) h1⟩, ⟨h2, ih (i + 1) ρ' σ' (by (first | lia | omega)) h1⟩⟩

theorem forL_all {T : FT} {body : FS} {ok : St → Prop} {P : Fl → Rho → St → Prop} (vs : List AV) (I : Nat → Rho → St → Prop) (Rt : AV → Rho → St → Prop)
    (step : ∀ i v ρ σ (Q : Fl → Rho → St → Prop), vs[i]? = some v → I i ρ σ → (∀ ρ' σ', I (i + 1) ρ' σ' → ok σ' → Q .next ρ' σ' ∧ Q .cont ρ' σ') → (∀ w ρ' σ', Rt w ρ' σ' → Q (.ret w) ρ' σ') → T v ρ σ fun ρ σ => body ρ σ Q)
    (fin : ∀ ρ σ, I vs.length ρ σ → P .next ρ σ) (finR : ∀ w ρ σ, Rt w ρ σ → P (.ret w) ρ σ) {ρ σ} (h : I 0 ρ σ) : forL T body ok vs ρ σ P := by
  have := forL_inv (T := T) (body := body) (ok := ok) (P := P) vs I Rt step fin finR vs.length 0 ρ σ (by (first | lia | omega)) h
  simpa using this

theorem compL_inv {k : Nat} {ft : FB} {fa : FA} {ok : St → Prop} {P : Rho → St → Prop} (vs : List AV) (I : Nat → Rho → St → Prop)
    (step : ∀ i v ρ σ (Q : Bool → St → Prop) (Q2 : Rho → St → Prop), vs[i]? = some v → I i ρ σ → (∀ σ', I (i + 1) (upd ρ k (some v)) σ' → ok σ' → Q false σ') → (∀ σ', fa (upd ρ k (some v)) σ' Q2 → Q true σ') → (∀ ρ' σ', I (i + 1) ρ' σ' → ok σ' → Q2 ρ' σ') →
      ft (upd ρ k (some v)) σ Q)
    (fin : ∀ ρ σ, I vs.length ρ σ → P ρ σ) : ∀ (n i : Nat) ρ σ, i + n = vs.length → I i ρ σ → compL k ft fa ok (vs.drop i) ρ σ P := by
  intro n
  induction n with
  | zero =>
    intro i ρ σ h hI
    have : i = vs.length := by (first | lia | omega)
    subst this
    rw [List.drop_length]
    exact fin ρ σ hI
  | succ n ih =>
    intro i ρ σ h hI
    have hlt : i < vs.length := by (first | lia | omega)
    rw [List.drop_eq_getElem_cons hlt]
    refine step i vs[i] ρ σ _ _ (List.getElem?_eq_getElem hlt) hI (fun σ' h1 h2 => ⟨fun h => (nomatch h), fun zz1 => ⟨h2, ih (i + 1) _ σ' (by (first | lia | omega)) h1⟩⟩) (fun σ' h1 => ⟨fun zz1 => h1, fun h => nomatch h⟩) (fun ρ' σ' h1 h2 => ⟨h2, ih (i + 1) _ σ' (by (first | lia | omega)) h1⟩)
theorem compL_all {k : Nat} {ft : FB} {fa : FA} {ok : St → Prop} {P : Rho → St → Prop} (vs : List AV) (I : Nat → Rho → St → Prop)
    (step : ∀ i v ρ σ (Q : Bool → St → Prop) (Q2 : Rho → St → Prop), vs[i]? = some v → I i ρ σ → (∀ σ', I (i + 1) (upd ρ k (some v)) σ' → ok σ' → Q false σ') → (∀ σ', fa (upd ρ k (some v)) σ' Q2 → Q true σ') → (∀ ρ' σ', I (i + 1) ρ' σ' → ok σ' → Q2 ρ' σ') →
      ft (upd ρ k (some v)) σ Q)
    (fin : ∀ ρ σ, I vs.length ρ σ → P ρ σ) {ρ σ} (h : I 0 ρ σ) : compL k ft fa ok vs ρ σ P := by
  have := compL_inv (k := k) (ft := ft) (fa := fa) (ok := ok) (P := P) vs I step fin vs.length 0 ρ σ (by (first | lia | omega)) h
  simpa using this

/-! ### the rows of a map -/
noncomputable def rr : List (Int × AV) → List AV
  | [] => []
  | [(s, v)] => [.tup [.int s, .int 1114111, v]]
  | (s, v) :: (s2, v2) :: r => .tup [.int s, .int (s2 - 1), v] :: rr ((s2, v2) :: r)
theorem rr_length : ∀ rows, (rr rows).length = rows.length
  | [] => rfl
  | [(s, v)] => rfl
  | (s, v) :: (s2, v2) :: r => by simp [rr, rr_length ((s2, v2) :: r)]
theorem rr_get : ∀ (rows : List (Int × AV)) (i : Nat) (s : Int) (v : AV), rows[i]? = some (s, v) →
    (rr rows)[i]? = some (.tup [.int s, .int (match rows[i + 1]? with | some y => y.1 - 1 | none => 1114111), v])
  | [], i, s, v, e => by simp at e
  | [(s0, v0)], 0, s, v, e => by simp at e; obtain ⟨rfl, rfl⟩ := e; rfl
  | [(s0, v0)], i + 1, s, v, e => by simp at e
  | (s0, v0) :: (s2, v2) :: r, 0, s, v, e => by simp at e; obtain ⟨rfl, rfl⟩ := e; rfl
  | (s0, v0) :: (s2, v2) :: r, i + 1, s, v, e => by
    have := rr_get ((s2, v2) :: r) i s v (by simpa using e)
    simpa [rr] using this

noncomputable def gRows : Fs := fun vs σ P => ∃ l rows a b, vs = [.inst 76 l] ∧ RM σ l rows a b ∧ rows.length ≤ 1000 ∧ ∀ σ' r, Keeps NoW σ σ' → σ.n ≤ r → σ'.obj r = some (.list (rr rows)) → P (.ref r) σ'

theorem rows_code {C : Ctx} {p : Params} (hC : C.K = hd.heap_39 p) : CodeN C 1 (.ref 87) gRows := by
  refine forC (Q := fun C => CodeN C 1 (.ref 87) gRows) ?_ hC
  clear hC
  intro prog w h0 p pp loose mg mb KX T
  have hC : (Ctx.mk prog w h0 (hd.heap_39 p) pp loose mg mb KX T).K = hd.heap_39 p := rfl
  clear hC
  refine CodeN.weakenW (codeDef (defOk_of (names := ["range_map"]) (vars := [("range_map", 0, false), ("starts", 1, false), ("found", 2, false), ("at", 3, false), ("value", 4, false), ("last", 5, false)]) rfl rfl rfl rfl rfl rfl rfl (bind1 (fun zz1 => rfl)))
    (simCons (simSwap (ns := ["starts", "found"]) (is := [1, 2]) (simTup (.cons (simAttr (simVar m0) cls_RangeMap rfl) (.cons (simList .nil) .nil (fun zz1 => rfl)) (fun zz1 => rfl))) (by intro j x i h1 h2; match j, h1, h2 with | 0, h1, h2 => cases h1; cases h2; exact ⟨_, m2⟩ | 1, h1, h2 => cases h1; cases h2; exact ⟨_, m1⟩ | _ + 2, h1, h2 => cases h1) rfl (hw := by intro env h; cases env; cases h; rfl))
    (simCons (simFor (simI_enum rfl rfl rfl (by decide) (.cons (simAttr (simVar m0) cls_RangeMap rfl) .nil (fun zz1 => rfl))) (simT_tup (.cons m3 (.cons m4 .nil (fun zz1 => rfl)) (fun zz1 => rfl))) (simCons (simAssign (simIfe (simB_cmp (simBin (simVar m3) simConst_int sim_add) (simCallB rfl rfl rfl (by decide) (.cons (simVar m1) .nil (fun zz1 => rfl)) simN_len) sim_lt) (simBin (simSub (simVar m1) (simBin (simVar m3) simConst_int sim_add)) simConst_int sim_sub) (simGlob rfl rfl glob_MAX_CODE)) m5)
    (simOne (simExpr (simAppend (simVar m2) (.cons (simTup (.cons (simSub (simVar m1) (simVar m3)) (.cons (simVar m5) (.cons (simVar m4) .nil (fun zz1 => rfl)) (fun zz1 => rfl)) (fun zz1 => rfl))) .nil (fun zz1 => rfl)))))))
    (simOne (simReturn (simVar m2)))))) ?_
  rintro vs σ P wf ⟨l, rows, a, b, rfl, R, hn, q⟩
  refine ⟨rfl, ?_⟩
  refine ⟨_, rfl, l, _, _, rfl, R.at_, rfl, _, rfl, rfl, _, rfl, l, _, _, rfl, push_old wf R.at_, rfl, b, _, rfl, push_old wf R.vs, ?_⟩
  have K1 : Keeps NoW σ (σ.push (.list [])) := (Keeps.refl wf).pushI
  have hen : ∀ (i : Nat) (v : AV), (enumA (rows.map (·.2)))[i]? = some v → ∃ s x, rows[i]? = some (s, x) ∧ v = .tup [.int (i : Nat), x] := by
    intro i v hv
    obtain ⟨x, hx, rfl⟩ := enumA_get hv
    rw [List.getElem?_map] at hx
    cases hr : rows[i]? with
    | none => rw [hr] at hx; cases hx
    | some y => rw [hr] at hx; simp at hx; subst hx; exact ⟨y.1, y.2, rfl, rfl⟩
  have hel : (enumA (rows.map (·.2))).length = rows.length := by simp [enumA]
  show forL _ _ _ _ _ _ _
  refine forL_all _ (fun i ρ σ' => Keeps NoW σ σ' ∧ ρ 0 = some (.inst 76 l) ∧ ρ 1 = some (.ref a) ∧ ρ 2 = some (.ref σ.n) ∧ σ'.obj σ.n = some (.list ((rr rows).take i))) (fun zz1 zz2 zz3 => False) ?_ ?_ (fun zz1 zz2 zz3 h => h.elim) ⟨K1, rfl, rfl, rfl, push_new⟩
  · rintro i v ρ σ' Q hv ⟨K, r0, r1, r2, e⟩ hQ hR
    obtain ⟨s, x, hr, rfl⟩ := hen i v hv
    have hi : i < rows.length := (List.getElem?_eq_some_iff.mp hr).1
    have R' := R.keeps wf K fun zz1 zz2 z => z
    have hlen : (intsA (rows.map (·.1))).length = rows.length := by simp
    refine ⟨_, rfl, rfl, ?_⟩
    have hs : (intsA (rows.map (·.1)))[i]? = some (.int s) := by simp [hr]
    have fin : ∀ last : Int, (last = match rows[i + 1]? with | some y => y.1 - 1 | none => 1114111) → ∀ ρ' : Rho, ρ' 0 = some (.inst 76 l) → ρ' 1 = some (.ref a) → ρ' 2 = some (.ref σ.n) → ρ' 3 = some (.int (i : Nat)) → ρ' 4 = some x → ρ' 5 = some (.int last) →
        Sx.expr (fun ρ σ P => ∃ v, ρ 2 = some v ∧ isList v σ ∧ ∃ v_1, ρ 1 = some v_1 ∧ ∃ v_2, ρ 3 = some v_2 ∧ gItem v_1 v_2 σ fun v_3 σ => ∃ v_4, ρ 5 = some v_4 ∧ ∃ v_5, ρ 4 = some v_5 ∧ gAppend [v, AV.tup [v_3, v_4, v_5]] σ P) ρ' σ' Q := by
      intro last hlast ρ' p0 p1 p2 p3 p4 p5
      refine ⟨_, p2, ⟨_, _, rfl, e⟩, _, p1, _, p3, ?_⟩
      first | refine gItemL (R'.ss) ?_ | refine gItemS (R'.ss) ?_ | refine gItemI (R'.ss) ?_
      refine ⟨by (first | lia | omega), by (first | lia | omega), .int s, by simpa using hs, _, p5, _, p4, _, _, _, rfl, e, ?_, rfl, ?_⟩
      · simp; (first | lia | omega)
      · have hlt : σ.n < σ'.n := K.wf _ _ e
        refine (hQ ρ' _ ⟨K.setI hlt (fun h => absurd h (Nat.lt_irrefl _)), p0, p1, p2, ?_⟩ ?_).1
        · rw [set_self]
          have h2 := rr_get rows i s x hr
          rw [← hlast] at h2
          rw [List.take_add_one, h2]; rfl
        · have h3 : b ≠ σ.n := Nat.ne_of_lt (wf _ _ R.vs)
          exact set_other R'.vs h3
    refine ⟨_, rfl, .inl ⟨_, _, rfl, rfl, _, r1, _, rows.length, rfl, by simp [lenA, R'.ss], by (first | lia | omega), _, _, rfl, rfl, _, rfl, fun ht => ?_, fun hf => ?_⟩⟩
    · have ht := of_decide_eq_true ht
      have hi1 : i + 1 < rows.length := by (first | lia | omega)
      have hr1 : rows[i + 1]? = some rows[i + 1] := List.getElem?_eq_getElem hi1
      refine ⟨_, r1, _, rfl, .inl ⟨_, _, rfl, rfl, ?_⟩⟩
      first | refine gItemL (R'.ss) ?_ | refine gItemS (R'.ss) ?_ | refine gItemI (R'.ss) ?_
      have e1 : ((i : Int) + 1).toNat = i + 1 := by (first | lia | omega)
      refine ⟨by (first | lia | omega), by (first | lia | omega), .int (rows[i + 1]).1, by rw [e1]; simp [hr1], _, _, rfl, rfl, trivial, ?_⟩
      exact fin _ (by rw [hr1]) _ r0 r1 r2 rfl rfl rfl
    · have hf := of_decide_eq_false hf
      have hr1 : rows[i + 1]? = none := List.getElem?_eq_none (by (first | lia | omega))
      exact fin _ (by rw [hr1]) _ r0 r1 r2 rfl rfl rfl
  · rintro ρ σ' ⟨K, r0, r1, r2, e⟩
    refine ⟨_, r2, q σ' σ.n K (Nat.le_refl _) ?_⟩
    rw [e, hel, List.take_of_length_le (by rw [rr_length]; exact Nat.le_refl _)]
end Mine
end

noncomputable section
open PySem PySem.W PyProof.Rows PySem.Calls PySem.Spec
set_option Elab.async false
set_option maxRecDepth 100000
set_option maxHeartbeats 0
set_option linter.all false
namespace Mine

noncomputable def keep3 : AV → Bool
  | .tup [_, _, .none] => false
  | _ => true

noncomputable def gRanges : Fs := fun vs σ P => ∃ l rows a b, vs = [.inst 76 l] ∧ RM σ l rows a b ∧ rows.length ≤ 1000 ∧ (∀ x ∈ rows, plainV x.2 σ) ∧ ∀ σ' r, Keeps NoW σ σ' → σ.n ≤ r → σ'.obj r = some (.list ((rr rows).filter keep3)) → P (.ref r) σ'

theorem ranges_code {C : Ctx} {p : Params} (hC : C.K = hd.heap_39 p) : CodeN C 2 (.ref 66) gRanges := by
  refine forC (Q := fun C => CodeN C 2 (.ref 66) gRanges) ?_ hC
  clear hC
  intro prog w h0 p pp loose mg mb KX T
  have hC : (Ctx.mk prog w h0 (hd.heap_39 p) pp loose mg mb KX T).K = hd.heap_39 p := rfl
  have h_range_rows := rows_code hC
  have h_range_are_like := (like_code hC)
  clear hC
  refine CodeN.weakenW (codeDef (defOk_of (names := ["self"]) (vars := [("self", 0, true)]) rfl rfl rfl rfl rfl rfl rfl (bind1 (fun zz1 => rfl)))
    (simOne (simReturn (simComp1 (compOk_of (vars := [("row", 40, false), ("self", 0, true)]) (sl := [40]) rfl) (simI (simCallFn rfl rfl rfl (.cons (simVar m0) .nil (fun zz1 => rfl)) h_range_rows.simN) srcOk_seq) m0 (simTests_one (simB_not (simB_val (simCallFn rfl rfl rfl (.cons (simSub (simVar m0) simConst_int) (.cons (simAttr (simVar m1) cls_RangeMap rfl) .nil (fun zz1 => rfl)) (fun zz1 => rfl)) h_range_are_like.simN)))) (simVar m0))))) ?_
  rintro vs σ P wf ⟨l, rows, a, b, rfl, R, hn, hp, q⟩
  refine ⟨rfl, ?_⟩
  refine ⟨_, rfl, l, rows, a, b, rfl, R, hn, ?_⟩
  intro σ1 r1 K1 hr1 e1
  refine gSeqL (e1) ?_
  have hr1' : r1 < σ1.n := K1.wf _ _ e1
  refine ⟨push_old K1.wf e1, ?_⟩
  have hlen : (rr rows).length = rows.length := rr_length rows
  refine compL_all _ (fun i ρ σ' => Keeps NoW σ σ' ∧ ρ 0 = some (.inst 76 l) ∧ σ'.obj r1 = some (.list (rr rows)) ∧ σ'.obj σ1.n = some (.list (((rr rows).take i).filter keep3))) ?_ ?_ ⟨K1.trans (Keeps.refl K1.wf).pushI, rfl, push_old K1.wf e1, push_new⟩
  · rintro i v ρ σ' Q Q2 hv ⟨K, r0, ee, el⟩ hf ht hn2
    have hi : i < rows.length := by have := (List.getElem?_eq_some_iff.mp hv).1; (first | lia | omega)
    have hrow : rows[i]? = some (rows[i].1, rows[i].2) := by rw [List.getElem?_eq_getElem hi]
    have h2 := rr_get rows i _ _ hrow
    rw [hv] at h2
    cases h2
    have R' := R.keeps wf K fun zz1 zz2 z => z
    have hpv : plainV rows[i].2 σ' := by
      rcases hp _ (List.getElem_mem hi) with h | ⟨y, kk, h, e⟩
      · exact .inl h
      · exact .inr ⟨y, kk, h, K.mono' wf _ _ e⟩
    have htake : (rr rows).take (i + 1) = (rr rows).take i ++ [.tup [.int rows[i].1, .int (match rows[i + 1]? with | some y => y.1 - 1 | none => 1114111), rows[i].2]] := by
      rw [List.take_add_one, hv]; rfl
    refine ⟨_, rfl, ?_⟩
    simp only [gItem]
    refine ⟨by decide, by decide, _, rfl, _, r0, l, _, _, rfl, R'.at_, rfl, ?_⟩
    rcases hpv with h | ⟨y, kk, h, e⟩
    · refine ⟨_, _, true, rfl, .inl h, .inl rfl, by rw [h]; exact .none, true, rfl, ?_⟩
      refine hf σ' ⟨K, r0, ee, ?_⟩ ee
      rw [htake, List.filter_append, el]
      simp [keep3, h]
    · refine ⟨_, _, false, rfl, .inr ⟨y, kk, h, e⟩, .inl rfl, by rw [h]; exact .dNone _ ⟨y, kk, rfl, e⟩, false, rfl, ?_⟩
      refine ht σ' ⟨_, rfl, _, el, ?_, ?_⟩
      · refine Nat.le_trans (List.length_filter_le _ _) ?_
        simp; (first | lia | omega)
      · have hlt : σ1.n < σ'.n := K.wf _ _ el
        refine hn2 _ _ ⟨K.setI hlt (fun h => absurd h (Nat.not_lt.mpr K1.le)), r0, set_other ee (Nat.ne_of_lt hr1'), ?_⟩ (set_other ee (Nat.ne_of_lt hr1'))
        rw [set_self, htake, List.filter_append, List.filter_cons_of_pos (by rw [h]; rfl)]; rfl
  · rintro ρ σ' ⟨K, r0, ee, el⟩
    refine q σ' σ1.n K K1.le ?_
    rw [el, List.take_of_length_le (Nat.le_refl _)]
end Mine
end

noncomputable section
open PySem PySem.W PyProof.Rows PySem.Calls PySem.Spec
set_option Elab.async false
set_option maxRecDepth 100000
set_option maxHeartbeats 0
set_option linter.all false
namespace Mine

structure DL where
  ld : Nat
  dfl : Nat
  m : Nat
  x1 : Nat
  x2 : Nat
  lm : Nat
  a : Nat
  b : Nat

structure DR (σ : St) (D : DL) (rows : List (Int × AV)) : Prop where
  at_ : σ.obj D.ld = some (.dS [("defaults", .ref D.dfl), ("maps", .ref D.m), ("properties", .ref D.x1), ("words", .ref D.x2)])
  mp : σ.obj D.m = some (.dS [("cf", .inst 76 D.lm)])
  rm : RM σ D.lm rows D.a D.b
structure DR0 (σ : St) (D : DL) : Prop where
  at_ : σ.obj D.ld = some (.dS [("defaults", .ref D.dfl), ("maps", .ref D.m), ("properties", .ref D.x1), ("words", .ref D.x2)])
  mp : σ.obj D.m = some (.dS [])
  df : ∃ kvs, σ.obj D.dfl = some (.dS kvs) ∧ look kvs "cf" = some .none ∧ kvs.length ≤ 100 ∧ kvs ≠ []

noncomputable def gDGet : Fs := fun vs σ P => ∃ D rows c x, vs = [.inst 248 D.ld, .str "cf", .int c] ∧ DR σ D rows ∧ (rows.map (·.1)).Pairwise (· < ·) ∧ rows.length ≤ 1000 ∧ 0 < cnt (rows.map (·.1)) c ∧ rows[cnt (rows.map (·.1)) c - 1]? = some x ∧ P x.2 σ

theorem dget_code {C : Ctx} {p : Params} (hC : C.K = hd.heap_39 p) : CodeN C 3 (.ref 238) gDGet := by
  refine forC (Q := fun C => CodeN C 3 (.ref 238) gDGet) ?_ hC
  clear hC
  intro prog w h0 p pp loose mg mb KX T
  have hC : (Ctx.mk prog w h0 (hd.heap_39 p) pp loose mg mb KX T).K = hd.heap_39 p := rfl
  have h_RangeMap_get := rm_get hC
  clear hC
  refine CodeN.weakenW (codeDef (defOk_of (names := ["self", "name", "code"]) (vars := [("self", 0, false), ("name", 1, false), ("code", 2, false)]) rfl rfl rfl rfl rfl rfl rfl (bind3 (fun zz1 zz2 zz3 => rfl)))
    (simCons (simIf (simB_cmp (simVar m1) (simAttr (simVar m0) cls_Data rfl) sim_inS) (simOne (simReturn (simMeth (simSub (simAttr (simVar m0) cls_Data rfl) (simVar m1)) (.cons (simVar m2) .nil (fun zz1 => rfl)) cls_RangeMap rfl rfl rfl h_RangeMap_get.simN))) simNil)
    (simOne simDeadS))) ?_
  rintro vs σ P wf ⟨D, rows, c, x, rfl, R, hs, hn, h0, hx, q⟩
  refine ⟨rfl, ?_⟩
  refine ⟨_, rfl, _, rfl, D.ld, _, _, rfl, R.at_, rfl, ?_⟩
  refine ⟨_, _, _, rfl, rfl, R.mp, _, rfl, fun zz1 => ?_, fun h => ?_⟩
  · refine ⟨_, rfl, D.ld, _, _, rfl, R.at_, rfl, _, rfl, ?_⟩
    first | refine gItemL (R.mp) ?_ | refine gItemS (R.mp) ?_ | refine gItemI (R.mp) ?_
    refine ⟨.inst 76 D.lm, rfl, ⟨_, _, rfl, R.rm.at_, rfl⟩, _, rfl, ?_⟩
    exact ⟨D.lm, rows, D.a, D.b, c, x, rfl, R.rm, hs, hn, h0, hx, q⟩
  · exact absurd (show true = false from h) Bool.noConfusion

noncomputable def gMapOf : Fs := fun vs σ P => ∃ D, vs = [.inst 248 D.ld, .str "cf"] ∧ ((∃ rows, DR σ D rows ∧ P (.inst 76 D.lm) σ) ∨
  (DR0 σ D ∧ ∀ σ' lm a b, Keeps (fun y => y = D.m) σ σ' → σ.n ≤ lm → DR σ' ⟨D.ld, D.dfl, D.m, D.x1, D.x2, lm, a, b⟩ [(0, .none)] → P (.inst 76 lm) σ'))

theorem mapof_code {C : Ctx} {p : Params} (hC : C.K = hd.heap_39 p) : CodeN C 3 (.ref 245) gMapOf := by
  have h_RangeMap : CodeN C 2 (.ref 76) (fun vs σ P => gRMInit (.inst 76 σ.n :: vs) (σ.push (.dS [])) fun v σ' => v = .none ∧ σ.n < σ'.n ∧ P (.inst 76 σ.n) σ') := by
    have H := rm_init hC
    obtain ⟨prog, w, h0, K, pp, loose, mg, mb, KX, T⟩ := C
    dsimp only at hC
    subst hC
    exact codeCls cls_RangeMap.makes rfl rfl H
  obtain ⟨prog, w, h0, K, pp, loose, mg, mb, KX, T⟩ := C
  dsimp only at hC
  subst hC
  refine CodeN.weakenW (codeDef (defOk_of (names := ["self", "name"]) (vars := [("self", 0, false), ("name", 1, false)]) rfl rfl rfl rfl rfl rfl rfl (bind2 (fun zz1 zz2 => rfl)))
    (simCons (simIf (simB_cmp (simVar m1) (simAttr (simVar m0) cls_Data rfl) sim_notInS) (simOne (simAssignT (simCallC rfl rfl rfl (.cons (simGetS (simAttr (simVar m0) cls_Data rfl) (.cons (simVar m1) .nil (fun zz1 => rfl))) .nil (fun zz1 => rfl)) h_RangeMap.simN) (simT_sub (simAttr (simVar m0) cls_Data rfl) (simVar m1)))) simNil)
    (simOne (simReturn (simSub (simAttr (simVar m0) cls_Data rfl) (simVar m1)))))) ?_
  rintro vs σ P wf ⟨D, rfl, hg⟩
  refine ⟨rfl, ?_⟩
  rcases hg with ⟨rows, R, q⟩ | ⟨R, q⟩
  · refine ⟨_, rfl, _, rfl, D.ld, _, _, rfl, R.at_, rfl, ?_⟩
    refine ⟨_, _, _, rfl, rfl, R.mp, _, rfl, fun h => absurd (show false = true from h) Bool.noConfusion, fun zz1 => ?_⟩
    refine ⟨_, rfl, D.ld, _, _, rfl, R.at_, rfl, _, rfl, ?_⟩
    first | refine gItemL (R.mp) ?_ | refine gItemS (R.mp) ?_ | refine gItemI (R.mp) ?_
    exact ⟨_, rfl, q⟩
  · have hm := wf _ _ R.mp
    obtain ⟨kvs, ed, hlk, hkz, hkne⟩ := R.df
    refine ⟨_, rfl, _, rfl, D.ld, _, _, rfl, R.at_, rfl, ?_⟩
    refine ⟨_, _, _, rfl, rfl, R.mp, _, rfl, fun zz1 => ?_, fun h => absurd (show true = false from h) Bool.noConfusion⟩
    refine ⟨_, rfl, D.ld, _, _, rfl, R.at_, rfl, ⟨_, _, rfl, ed⟩, _, rfl, _, _, _, rfl, ed, ?_⟩
    rw [hlk]
    refine ⟨σ.n, rfl, push_new, ?_⟩
    intro σ1 a b K1 ha hb R1
    refine ⟨rfl, by have := K1.le; simp only [St.push_n] at this; (first | lia | omega), ?_⟩
    have K1' : Keeps NoW σ σ1 := ⟨K1.wf, by have := K1.le; simp only [St.push_n] at this; (first | lia | omega), fun y hy zz1 => by
      have := K1.same y (Nat.lt_succ_of_lt hy) (Nat.ne_of_lt hy)
      rw [this]
      simp only [St.push, if_neg (Nat.ne_of_lt hy)]⟩
    have e1 := K1'.mono' wf _ _ R.at_
    have e2 := K1'.mono' wf _ _ R.mp
    refine ⟨_, rfl, D.ld, _, _, rfl, e1, rfl, _, rfl, ?_⟩
    first | refine gSetS (e2) ?_ | refine gSetI (e2) ?_
    refine ⟨Nat.le_of_ble_eq_true rfl, ?_⟩
    have hl1 : D.m < σ1.n := Nat.lt_of_lt_of_le hm K1'.le
    have nld : D.ld ≠ D.m := obj_ne R.at_ R.mp (by simp)
    have e3 : (σ1.set D.m (.dS (put [] "cf" (.inst 76 σ.n)))).obj D.m = some (.dS [("cf", .inst 76 σ.n)]) := set_self
    have e4 := set_other (o := .dS (put [] "cf" (.inst 76 σ.n))) e1 nld
    have K2 : Keeps (fun y => y = D.m) σ (σ1.set D.m (.dS (put [] "cf" (.inst 76 σ.n)))) := K1'.off.setI hl1 fun zz1 => rfl
    have nlm : σ.n ≠ D.m := Nat.ne_of_gt hm
    have R2 : RM (σ1.set D.m (.dS (put [] "cf" (.inst 76 σ.n)))) σ.n [(0, .none)] a b :=
      ⟨set_other R1.at_ nlm, set_other R1.ss (Nat.ne_of_gt (Nat.lt_of_lt_of_le hm (Nat.le_of_succ_le ha))), set_other R1.vs (Nat.ne_of_gt (Nat.lt_of_lt_of_le hm (Nat.le_of_succ_le hb))), R1.ab⟩
    refine ⟨_, rfl, D.ld, _, _, rfl, e4, rfl, _, rfl, ?_⟩
    first | refine gItemL (e3) ?_ | refine gItemS (e3) ?_ | refine gItemI (e3) ?_
    exact ⟨_, rfl, q _ σ.n a b K2 (Nat.le_refl _) ⟨e4, e3, R2⟩⟩
end Mine
end

noncomputable section
open PySem PySem.W PyProof.Rows PySem.Calls PySem.Spec
set_option Elab.async false
set_option maxRecDepth 100000
set_option maxHeartbeats 0
set_option linter.all false
namespace Mine

theorem look_put {κ α : Type} [DecidableEq κ] (kvs : List (κ × α)) (k k' : κ) (v : α) : look (put kvs k v) k' = if k = k' then some v else look kvs k' := by
  unfold put
  by_cases h : kvs.any (fun kv => decide (kv.1 = k)) = true
  · rw [if_pos h]
    induction kvs with
    | nil => simp at h
    | cons a r ih =>
      obtain ⟨x, y⟩ := a
      by_cases hx : x = k
      · subst hx
        by_cases hk : x = k'
        · subst hk; simp [look]
        · simp only [List.map_cons, if_true, look, List.find?_cons, hk, decide_false, if_false]
          -- the rest is looked up alike
          have : ∀ r : List (κ × α), (r.map fun kv => if kv.1 = x then (kv.1, v) else kv).find? (fun kv => decide (kv.1 = k')) = r.find? (fun kv => decide (kv.1 = k')) := by
            intro r
            induction r with
            | nil => rfl
            | cons b r ih2 =>
              obtain ⟨z, u⟩ := b
              by_cases hz : z = x
              · subst hz; simp [hk, ih2]
              · simp only [List.map_cons, hz, if_false, List.find?_cons, ih2]
          rw [this]
      · have h' : r.any (fun kv => decide (kv.1 = k)) = true := by simpa [hx] using h
        have := ih h'
        by_cases hk : x = k'
        · subst hk
          simp [look, hx, Ne.symm hx]
        · simp only [List.map_cons, hx, if_false, look, List.find?_cons, hk, decide_false] at this ⊢
          exact this
  · rw [if_neg h]
    have hn : ∀ x ∈ kvs, x.1 ≠ k := fun x hx he => h (List.any_eq_true.mpr ⟨x, hx, by simpa using he⟩)
    unfold look
    rw [List.find?_append]
    by_cases hk : k = k'
    · subst hk
      have : kvs.find? (fun kv => decide (kv.1 = k)) = none := by
        rw [List.find?_eq_none]; intro x hx; simpa using hn x hx
      simp [this]
    · simp [hk]
theorem put_length {κ α : Type} [DecidableEq κ] (kvs : List (κ × α)) (k : κ) (v : α) : (put kvs k v).length ≤ kvs.length + 1 := by
  unfold put; split <;> simp
theorem put_ne {κ α : Type} [DecidableEq κ] (kvs : List (κ × α)) (k : κ) (v : α) : put kvs k v ≠ [] := by
  unfold put
  split
  · rename_i h
    intro he
    have : kvs = [] := by simpa using he
    subst this
    simp at h
  · simp

noncomputable def gDefaults : Fs := fun vs σ P => vs = [] ∧ ∀ σ' r kvs, Keeps NoW σ σ' → σ.n ≤ r → σ'.obj r = some (.dS kvs) → look kvs "cf" = some .none → kvs.length ≤ 100 → kvs ≠ [] → P (.ref r) σ'

theorem defaults_code {C : Ctx} {p : Params} (hC : C.K = hd.heap_39 p) : CodeN C 1 (.ref 210) gDefaults := by
  refine forC (Q := fun C => CodeN C 1 (.ref 210) gDefaults) ?_ hC
  clear hC
  intro prog w h0 p pp loose mg mb KX T
  have hC : (Ctx.mk prog w h0 (hd.heap_39 p) pp loose mg mb KX T).K = hd.heap_39 p := rfl
  clear hC
  refine CodeN.weakenW (codeDef (defOk_of (names := []) (vars := [("found", 0, false), ("name", 1, false)]) rfl rfl rfl rfl rfl rfl rfl (bind0 rfl))
    (simCons (simAssign (simDictS (.cons simConst_str simConst_str (.cons simConst_str simConst_int (.cons simConst_str simConst_str (.cons simConst_str simConst_str (.cons simConst_str simConst_str (.cons simConst_str simConst_str (.cons simConst_str simConst_str (.cons simConst_str simConst_str .nil)))))))) (List.cons_ne_nil _ _)) m0)
    (simCons (simFor (simI (simTup (.cons simConst_str (.cons simConst_str (.cons simConst_str .nil (fun zz1 => rfl)) (fun zz1 => rfl)) (fun zz1 => rfl))) srcOk_seq) (simT_name m1) (simOne (simAssignT simConst_str (simT_sub (simVar m0) (simVar m1)))))
    (simCons (simFor (simI (simTup (.cons simConst_str (.cons simConst_str (.cons simConst_str (.cons simConst_str (.cons simConst_str (.cons simConst_str (.cons simConst_str (.cons simConst_str (.cons simConst_str (.cons simConst_str (.cons simConst_str (.cons simConst_str (.cons simConst_str .nil (fun zz1 => rfl)) (fun zz1 => rfl)) (fun zz1 => rfl)) (fun zz1 => rfl)) (fun zz1 => rfl)) (fun zz1 => rfl)) (fun zz1 => rfl)) (fun zz1 => rfl)) (fun zz1 => rfl)) (fun zz1 => rfl)) (fun zz1 => rfl)) (fun zz1 => rfl)) (fun zz1 => rfl))) srcOk_seq) (simT_name m1) (simOne (simAssignT simConst_bool (simT_sub (simVar m0) (simVar m1)))))
    (simCons (simFor (simI (simTup (.cons simConst_str (.cons simConst_str (.cons simConst_str (.cons simConst_str (.cons simConst_str (.cons simConst_str (.cons simConst_str (.cons simConst_str (.cons simConst_str (.cons simConst_str (.cons simConst_str (.cons simConst_str (.cons simConst_str .nil (fun zz1 => rfl)) (fun zz1 => rfl)) (fun zz1 => rfl)) (fun zz1 => rfl)) (fun zz1 => rfl)) (fun zz1 => rfl)) (fun zz1 => rfl)) (fun zz1 => rfl)) (fun zz1 => rfl)) (fun zz1 => rfl)) (fun zz1 => rfl)) (fun zz1 => rfl)) (fun zz1 => rfl))) srcOk_seq) (simT_name m1) (simOne (simAssignT simConst_none (simT_sub (simVar m0) (simVar m1)))))
    (simCons (simFor (simI (simTup (.cons simConst_str (.cons simConst_str (.cons simConst_str (.cons simConst_str .nil (fun zz1 => rfl)) (fun zz1 => rfl)) (fun zz1 => rfl)) (fun zz1 => rfl))) srcOk_seq) (simT_name m1) (simOne (simAssignT (simTup .nil) (simT_sub (simVar m0) (simVar m1)))))
    (simCons (simAssignT (simTup (.cons simConst_str (.cons (simTup .nil) .nil (fun zz1 => rfl)) (fun zz1 => rfl))) (simT_sub (simVar m0) simConst_str))
    (simOne (simReturn (simVar m0)))))))))) ?_
  rintro vs σ P wf ⟨rfl, q⟩
  refine ⟨rfl, ?_⟩
  simp only [Sx.seq, Sx.assign, Ex.const, Ex.ops, Ex.evs, Ex.var, Ex.op2, Ex.op1, Sx.ret, Sx.ite, Ex.list, Ex.tup, Ex.pairs]
  refine ⟨[(_, _), (_, _), (_, _), (_, _), (_, _), (_, _), (_, _), (_, _)], rfl, push_new, ?_⟩
  have K1 : Keeps NoW σ ((σ.push (.dS [])).set σ.n (.dS (putAll [] [(Str.ofString "gc", AV.str (Str.ofString "Cn")), (Str.ofString "ccc", .int 0), (Str.ofString "bc", .str (Str.ofString "L")), (Str.ofString "lb", .str (Str.ofString "XX")), (Str.ofString "ea", .str (Str.ofString "N")), (Str.ofString "sc", .str (Str.ofString "Zzzz")), (Str.ofString "jt", .str (Str.ofString "U")), (Str.ofString "incb", .str (Str.ofString "None"))]))) :=
    (Keeps.refl wf).pushI.setI (Nat.lt_succ_self _) fun h => absurd h (Nat.lt_irrefl _)
  refine gSeqT ?_
  -- one loop of stores
  have loop : ∀ (names : List Str) (v : AV) (cf : List (Str × AV) → Nat → Prop) (c : Nat) (P : Fl → Rho → St → Prop) (σ1 : St) (ρ : Rho) (kvs : List (Str × AV)), Keeps NoW σ σ1 → ρ 0 = some (.ref σ.n) → σ1.obj σ.n = some (.dS kvs) → kvs.length ≤ c → c + names.length ≤ 100 → cf kvs 0 → kvs ≠ [] →
      (∀ i x kvs, names[i]? = some x → cf kvs i → cf (put kvs x v) (i + 1)) →
      (∀ σ2 ρ2 kvs2, Keeps NoW σ σ2 → ρ2 0 = some (.ref σ.n) → σ2.obj σ.n = some (.dS kvs2) → kvs2.length ≤ c + names.length → cf kvs2 names.length → kvs2 ≠ [] → P .next ρ2 σ2) →
      forL (fun v ρ σ P => P (upd ρ 1 (some v)) σ) (fun ρ σ P => Ex.const v ρ σ fun v σ => ∃ w, ρ 0 = some w ∧ ∃ j, ρ 1 = some j ∧ gSetItem v w j σ (P .next ρ)) (fun zz1 => True) (names.map AV.str) ρ σ1 P := by
    intro names v cf c P σ1 ρ kvs hK hr he hc hz hcf hne hstep hP
    refine forL_all _ (fun i ρ σ' => Keeps NoW σ σ' ∧ ρ 0 = some (.ref σ.n) ∧ ∃ kvs, σ'.obj σ.n = some (.dS kvs) ∧ kvs.length ≤ c + i ∧ cf kvs i ∧ kvs ≠ []) (fun zz1 zz2 zz3 => False) ?_ ?_ (fun zz1 zz2 zz3 h => h.elim) ⟨hK, hr, kvs, he, hc, hcf, hne⟩
    · rintro i u ρ' σ' Q hu ⟨K', r0, kvs', e', hl, hcf', hne'⟩ hQ hR
      rw [List.getElem?_map] at hu
      cases hx : names[i]? with
      | none => rw [hx] at hu; cases hu
      | some x =>
        rw [hx] at hu; cases hu
        have hi : i < names.length := (List.getElem?_eq_some_iff.mp hx).1
        refine ⟨_, r0, _, rfl, ?_⟩
        first | refine gSetS (e') ?_ | refine gSetI (e') ?_
        refine ⟨by (first | lia | omega), ?_⟩
        have hlt : σ.n < σ'.n := K'.wf _ _ e'
        refine (hQ (upd ρ' 1 (some (.str x))) _ ⟨K'.setI hlt fun h => absurd h (Nat.lt_irrefl _), r0, _, set_self, ?_, hstep i x kvs' hx hcf', put_ne _ _ _⟩ trivial).1
        have := put_length kvs' x v
        (first | lia | omega)
    · rintro ρ' σ' ⟨K', r0, kvs', e', hl, hcf', hne'⟩
      rw [List.length_map] at hl hcf'
      exact hP σ' ρ' kvs' K' r0 e' hl hcf' hne'
  refine loop ["gcb", "wb", "sb"] (.str "Other") (fun zz1 zz2 => True) 8 _ _ _ _ K1 rfl set_self (Nat.le_of_ble_eq_true rfl) (by decide) trivial (by intro h; cases h) (fun zz1 zz2 zz3 zz4 zz5 => trivial) ?_
  intro σ2 ρ2 kvs2 K2 r2 e2 l2 _ n2
  refine loop ["ex", "sd", "cased", "ci", "ep", "di", "ids", "idc", "xids", "xidc", "pat_syn", "pat_ws", "idst"] (.bool false) (fun zz1 zz2 => True) 11 _ _ _ _ K2 r2 e2 l2 (by decide) trivial n2 (fun zz1 zz2 zz3 zz4 zz5 => trivial) ?_
  intro σ3 ρ3 kvs3 K3 r3 e3 l3 _ n3
  refine loop ["dm", "uc", "lc", "tc", "cf", "bm", "bpb", "scx", "nt", "nv", "name", "conf", "nfkc_cf"] .none (fun kvs i => 4 < i → look kvs "cf" = some .none) 24 _ _ _ _ K3 r3 e3 l3 (by decide) (fun h => absurd h (by decide)) n3 ?_ ?_
  · intro i x kvs hx h hi
    rw [look_put]
    by_cases hi4 : i = 4
    · subst hi4
      simp at hx
      subst hx
      simp
    · split
      · rfl
      · exact h (by (first | lia | omega))
  intro σ4 ρ4 kvs4 K4 r4 e4 l4 c4 n4
  refine loop ["suc", "slc", "stc", "alias"] (.tup []) (fun kvs i => look kvs "cf" = some .none) 37 _ _ _ _ K4 r4 e4 l4 (by decide) (c4 (by decide)) n4 ?_ ?_
  · intro i x kvs hx h
    rw [look_put, if_neg, h]
    intro he
    subst he
    have : Str.ofString "cf" ∈ ([Str.ofString "suc", Str.ofString "slc", Str.ofString "stc", Str.ofString "alias"] : List Str) := List.mem_of_getElem? hx
    revert this
    decide +kernel
  intro σ5 ρ5 kvs5 K5 r5 e5 l5 c5 n5
  refine ⟨_, r5, ?_⟩
  first | refine gSetS (e5) ?_ | refine gSetI (e5) ?_
  have hl5 : kvs5.length ≤ 41 := l5
  refine ⟨by (first | lia | omega), _, r5, ?_⟩
  have hlt : σ.n < σ5.n := K5.wf _ _ e5
  refine q _ σ.n _ (K5.setI hlt fun h => absurd h (Nat.lt_irrefl _)) (Nat.le_refl _) set_self ?_ ?_ (put_ne _ _ _)
  · rw [look_put, if_neg (by decide +kernel), c5]
  · have := put_length kvs5 "idna" (AV.tup [.str "disallowed", .tup []])
    refine Nat.le_trans this ?_
    (first | lia | omega)
end Mine
end

noncomputable section
open PySem PySem.W PyProof.Rows PySem.Calls PySem.Spec
set_option Elab.async false
set_option maxRecDepth 100000
set_option maxHeartbeats 0
set_option linter.all false
namespace Mine

noncomputable def gDataInit : Fs := fun vs σ P => ∃ l, vs = [.inst 248 l] ∧ σ.obj l = some (.dS []) ∧ ∀ σ' D, Keeps (fun y => y = l) σ σ' → D.ld = l → σ.n ≤ D.m → DR0 σ' D → P .none σ'

theorem dinit_code {C : Ctx} {p : Params} (hC : C.K = hd.heap_39 p) : CodeN C 2 (.ref 224) gDataInit := by
  refine forC (Q := fun C => CodeN C 2 (.ref 224) gDataInit) ?_ hC
  clear hC
  intro prog w h0 p pp loose mg mb KX T
  have hC : (Ctx.mk prog w h0 (hd.heap_39 p) pp loose mg mb KX T).K = hd.heap_39 p := rfl
  have h_data_defaults := defaults_code hC
  clear hC
  refine CodeN.weakenW (codeDef (defOk_of (names := ["self"]) (vars := [("self", 0, false)]) rfl rfl rfl rfl rfl rfl rfl (bind1 (fun zz1 => rfl)))
    (simCons (simAssignT (simCallFn rfl rfl rfl .nil h_data_defaults.simN) (simT_attr (simVar m0) cls_Data rfl))
    (simCons (simAssignT (simDict0 0) (simT_attr (simVar m0) cls_Data rfl))
    (simCons (simAssignT (simDict0 0) (simT_attr (simVar m0) cls_Data rfl))
    (simOne (simAssignT (simDict0 0) (simT_attr (simVar m0) cls_Data rfl))))))) ?_
  rintro vs σ P wf ⟨l, rfl, e, q⟩
  have hl := wf l _ e
  refine ⟨rfl, ?_⟩
  refine ⟨rfl, ?_⟩
  intro σ1 r kvs K1 hr er hlk hkz hkne
  have e1 := K1.mono' wf _ _ e
  have nr : r ≠ l := Nat.ne_of_gt (Nat.lt_of_lt_of_le hl hr)
  have hl1 : l < σ1.n := Nat.lt_of_lt_of_le hl K1.le
  refine ⟨_, rfl, l, _, rfl, e1, Nat.le_of_ble_eq_true rfl, ?_⟩
  have K2 : Keeps (fun y => y = l) σ (σ1.set l (.dS (put [] "defaults" (.ref r)))) := K1.off.setI hl1 fun zz1 => rfl
  have f2 : (σ1.set l (.dS (put [] "defaults" (.ref r)))).obj l = some (.dS [("defaults", .ref r)]) := set_self
  have g2 := set_other (o := .dS (put [] "defaults" (.ref r))) er nr
  have n2 : (σ1.set l (.dS (put [] "defaults" (.ref r)))).n = σ1.n := rfl
  generalize σ1.set l (.dS (put [] "defaults" (.ref r))) = σ2 at K2 f2 g2 n2 ⊢
  -- three empty dicts
  have w3 := push_wf (o := emptyD 0) K2.wf
  refine ⟨_, rfl, l, _, rfl, push_old K2.wf f2, Nat.le_of_ble_eq_true rfl, ?_⟩
  have n4 : ((σ2.push (emptyD 0)).set l (.dS (put [("defaults", .ref r)] "maps" (.ref σ2.n)))).n = σ1.n + 1 := by show σ2.n + 1 = _; (first | lia | omega)
  have K4 : Keeps (fun y => y = l) σ ((σ2.push (emptyD 0)).set l (.dS (put [("defaults", .ref r)] "maps" (.ref σ2.n)))) := K2.pushI.setI (by show l < σ2.n + 1; (first | lia | omega)) fun zz1 => rfl
  have f4 : ((σ2.push (emptyD 0)).set l (.dS (put [("defaults", .ref r)] "maps" (.ref σ2.n)))).obj l = some (.dS [("defaults", .ref r), ("maps", .ref σ2.n)]) := set_self
  have g4 := set_other (o := .dS (put [("defaults", .ref r)] "maps" (.ref σ2.n))) (push_old (o := emptyD 0) K2.wf g2) nr
  have m4 := set_other (o := .dS (put [("defaults", .ref r)] "maps" (.ref σ2.n))) (push_new (σ := σ2) (o := emptyD 0)) (show σ2.n ≠ l by (first | lia | omega))
  rw [n2] at K4 f4 g4 m4 n4 ⊢
  generalize (σ2.push (emptyD 0)).set l (.dS (put [("defaults", .ref r)] "maps" (.ref σ1.n))) = σ4 at K4 f4 g4 m4 n4 ⊢
  clear K2 f2 g2 n2
  refine ⟨_, rfl, l, _, rfl, push_old K4.wf f4, Nat.le_of_ble_eq_true rfl, ?_⟩
  have n6 : ((σ4.push (emptyD 0)).set l (.dS (put [("defaults", .ref r), ("maps", .ref σ1.n)] "properties" (.ref σ4.n)))).n = σ1.n + 2 := by show σ4.n + 1 = _; (first | lia | omega)
  have K6 : Keeps (fun y => y = l) σ ((σ4.push (emptyD 0)).set l (.dS (put [("defaults", .ref r), ("maps", .ref σ1.n)] "properties" (.ref σ4.n)))) := K4.pushI.setI (by show l < σ4.n + 1; (first | lia | omega)) fun zz1 => rfl
  have f6 : ((σ4.push (emptyD 0)).set l (.dS (put [("defaults", .ref r), ("maps", .ref σ1.n)] "properties" (.ref σ4.n)))).obj l = some (.dS [("defaults", .ref r), ("maps", .ref σ1.n), ("properties", .ref σ4.n)]) := set_self
  have g6 := set_other (o := .dS (put [("defaults", .ref r), ("maps", .ref σ1.n)] "properties" (.ref σ4.n))) (push_old (o := emptyD 0) K4.wf g4) nr
  have m6 := set_other (o := .dS (put [("defaults", .ref r), ("maps", .ref σ1.n)] "properties" (.ref σ4.n))) (push_old (o := emptyD 0) K4.wf m4) (show σ1.n ≠ l by (first | lia | omega))
  generalize (σ4.push (emptyD 0)).set l (.dS (put [("defaults", .ref r), ("maps", .ref σ1.n)] "properties" (.ref σ4.n))) = σ6 at K6 f6 g6 m6 n6 ⊢
  clear K4 f4 g4 m4
  refine ⟨_, rfl, l, _, rfl, push_old K6.wf f6, Nat.le_of_ble_eq_true rfl, ?_⟩
  refine q _ ⟨l, r, σ1.n, σ4.n, σ6.n, 0, 0, 0⟩ (K6.pushI.setI (by show l < σ6.n + 1; (first | lia | omega)) fun zz1 => rfl) rfl K1.le ⟨set_self, ?_, kvs, ?_, hlk, hkz, hkne⟩
  · exact set_other (push_old (o := emptyD 0) K6.wf m6) (show σ1.n ≠ l by (first | lia | omega))
  · exact set_other (push_old (o := emptyD 0) K6.wf g6) nr

noncomputable def gData : Fs := fun vs σ P => vs = [] ∧ ∀ σ' D, Keeps NoW σ σ' → σ.n ≤ D.ld → σ.n ≤ D.m → DR0 σ' D → P (.inst 248 D.ld) σ'
theorem data_code {C : Ctx} {p : Params} (hC : C.K = hd.heap_39 p) : CodeN C 3 (.ref 248) gData := by
  refine forC (Q := fun C => CodeN C 3 (.ref 248) gData) ?_ hC
  clear hC
  intro prog w h0 p pp loose mg mb KX T
  have hC : (Ctx.mk prog w h0 (hd.heap_39 p) pp loose mg mb KX T).K = hd.heap_39 p := rfl
  have H := dinit_code hC
  clear hC
  refine CodeN.weakenW (codeCls cls_Data.makes rfl rfl H) ?_
  rintro vs σ P wf ⟨rfl, q⟩
  refine ⟨σ.n, rfl, push_new, ?_⟩
  intro σ' D K hD hm R
  have hle := K.le
  simp only [St.push_n] at hle
  refine ⟨rfl, by (first | lia | omega), ?_⟩
  have K' : Keeps NoW σ σ' := ⟨K.wf, by (first | lia | omega), fun y hy zz1 => by
    have := K.same y (Nat.lt_succ_of_lt hy) (Nat.ne_of_lt hy)
    rw [this]
    simp only [St.push, if_neg (Nat.ne_of_lt hy)]⟩
  rw [← hD]
  simp only [St.push_n] at hm
  exact q σ' D K' (by (first | lia | omega)) (by (first | lia | omega)) R

noncomputable def DRany (σ : St) (D : DL) (rows : List (Int × AV)) : Prop := DR σ D rows ∨ (DR0 σ D ∧ rows = [(0, .none)])

noncomputable def gDPut : Fs := fun vs σ P => ∃ D rows base b0 s0 u c v, vs = [.inst 248 D.ld, .str "cf", .int c, .int c, v] ∧ DRany σ D rows ∧ base = b0 ++ [(s0, u)] ∧ ((rows = base ∧ u = .none) ∨ rows = base ++ [(c, .none)]) ∧ (base.map (·.1)).Pairwise (· < ·) ∧ (∀ x ∈ base, x.1 < c) ∧
  plainV u σ ∧ EqR σ u v false ∧ (∃ r row, v = .ref r ∧ row ≠ [] ∧ σ.obj r = some (.dS row) ∧ look row "cf" = none ∧ look row "default" = none) ∧ (∀ r, u = .ref r → ∃ row, σ.obj r = some (.dS row) ∧ row ≠ [] ∧ look row "cf" = none ∧ look row "default" = none) ∧ 0 ≤ c ∧ c < 1114111 ∧ base.length ≤ 400 ∧
  ∀ σ' D', Keeps (fun y => y = D.m ∨ (DR σ D rows ∧ y = D.lm)) σ σ' → D'.ld = D.ld → D'.m = D.m → ((DR σ D rows ∧ D'.lm = D.lm) ∨ σ.n ≤ D'.lm) → σ.n ≤ D'.a → σ.n ≤ D'.b → DR σ' D' (base ++ [(c, v), (c + 1, .none)]) → P .none σ'

theorem dput_code {C : Ctx} {p : Params} (hC : C.K = hd.heap_39 p) : CodeN C 4 (.ref 231) gDPut := by
  refine forC (Q := fun C => CodeN C 4 (.ref 231) gDPut) ?_ hC
  clear hC
  intro prog w h0 p pp loose mg mb KX T
  have hC : (Ctx.mk prog w h0 (hd.heap_39 p) pp loose mg mb KX T).K = hd.heap_39 p := rfl
  have h_Data_map_of := mapof_code hC
  have h_RangeMap_put := (rm_put hC).mono (show 2 ≤ 3 by decide)
  clear hC
  refine CodeN.weakenW (codeDef (defOk_of (names := ["self", "name", "first", "last", "value"]) (vars := [("self", 0, false), ("name", 1, false), ("first", 2, false), ("last", 3, false), ("value", 4, false)]) rfl rfl rfl rfl rfl rfl rfl (bind5 (fun zz1 zz2 zz3 zz4 zz5 => rfl)))
    (simOne (simExpr (simMeth (simMeth (simVar m0) (.cons (simVar m1) .nil (fun zz1 => rfl)) cls_Data rfl rfl rfl h_Data_map_of.simN) (.cons (simVar m2) (.cons (simVar m3) (.cons (simVar m4) .nil (fun zz1 => rfl)) (fun zz1 => rfl)) (fun zz1 => rfl)) cls_RangeMap rfl rfl rfl h_RangeMap_put.simN)))) ?_
  rintro vs σ P wf ⟨D, rows, base, b0, s0, u, c, v, rfl, R, hbase, hrows, hs, hlt, hu, heq, ⟨rv, row, rfl, hrne, hrv, hr1, hr2⟩, hu2, hc0, hc1, hn, q⟩
  refine ⟨rfl, ?_⟩
  rcases R with R | ⟨R, hrr⟩
  · refine ⟨_, rfl, ⟨D.ld, _, rfl, R.at_, rfl⟩, _, rfl, D, rfl, .inl ⟨rows, R, ?_⟩⟩
    refine ⟨⟨D.lm, _, rfl, R.rm.at_, rfl⟩, _, rfl, _, rfl, _, rfl, ?_⟩
    refine ⟨D.lm, rows, base, b0, s0, u, D.a, D.b, c, .ref rv, rfl, R.rm, hbase, hrows, hs, hlt, hu, heq, ⟨rv, row, rfl, hrv⟩, hc0, hc1, hn, ?_⟩
    intro σ' a' b' K ha hb R'
    have n1 : D.ld ≠ D.lm := obj_ne R.at_ R.rm.at_ (by intro h; injection h with h; injection h with h; injection h with h; exact absurd h (by decide +kernel))
    have n2 : D.m ≠ D.lm := obj_ne R.mp R.rm.at_ (by intro h; injection h with h; injection h with h; injection h with h; exact absurd h (by decide +kernel))
    refine ⟨rfl, q σ' ⟨D.ld, D.dfl, D.m, D.x1, D.x2, D.lm, a', b'⟩ (K.mono fun y zz1 hy => .inr ⟨R, hy⟩) rfl rfl (.inl ⟨R, rfl⟩) ha hb ⟨K.at wf R.at_ n1, K.at wf R.mp n2, R'⟩⟩
  · refine ⟨_, rfl, ⟨D.ld, _, rfl, R.at_, rfl⟩, _, rfl, D, rfl, .inr ⟨R, ?_⟩⟩
    intro σ1 lm a b K1 hlm R1
    have nm : ∀ y row, σ.obj y = some (.dS row) → row ≠ [] → y ≠ D.m := fun y row e hne => obj_ne e R.mp (by intro h; injection h with h; exact hne h)
    have hrv1 := K1.at wf hrv (nm _ _ hrv hrne)
    have hu0 : u = .none := by
      rcases hrows with ⟨_, h⟩ | h
      · exact h
      · have := congrArg List.length h
        rw [hrr, hbase] at this
        simp at this
    subst hu0
    have heq1 : EqR σ1 .none (.ref rv) false := .noneD _ ⟨_, _, rfl, hrv1⟩
    have hu1 : plainV .none σ1 := .inl rfl
    refine ⟨⟨lm, _, rfl, R1.rm.at_, rfl⟩, _, rfl, _, rfl, _, rfl, ?_⟩
    subst hrr
    refine ⟨lm, _, base, b0, s0, .none, a, b, c, .ref rv, rfl, R1.rm, hbase, hrows, hs, hlt, hu1, heq1, ⟨rv, row, rfl, hrv1⟩, hc0, hc1, hn, ?_⟩
    intro σ' a' b' K ha hb R'
    have n1 : D.ld ≠ lm := Nat.ne_of_lt (Nat.lt_of_lt_of_le (wf _ _ R.at_) hlm)
    have n2 : D.m ≠ lm := Nat.ne_of_lt (Nat.lt_of_lt_of_le (wf _ _ R.mp) hlm)
    refine ⟨rfl, q σ' ⟨D.ld, D.dfl, D.m, D.x1, D.x2, lm, a', b'⟩ ?_ rfl rfl (.inr hlm) (Nat.le_trans K1.le ha) (Nat.le_trans K1.le hb) ⟨K.at K1.wf R1.at_ n1, K.at K1.wf R1.mp n2, R'⟩⟩
    refine ⟨K.wf, Nat.le_trans K1.le K.le, fun y hy hw => ?_⟩
    rw [K.same y (Nat.lt_of_lt_of_le hy K1.le) (Nat.ne_of_lt (Nat.lt_of_lt_of_le hy hlm)), K1.same y hy fun h => hw (.inl h)]
end Mine
end

noncomputable section
open PySem PySem.W PyProof.Rows PySem.Calls PySem.Spec
set_option Elab.async false
set_option maxRecDepth 100000
set_option maxHeartbeats 0
set_option linter.all false
namespace Mine

noncomputable abbrev Row := List (Str × List Int)
noncomputable abbrev Told := List (Int × Nat × Row)
noncomputable def rowA (row : Row) : List (Str × AV) := row.map fun p => (p.1, .tup (intsA p.2))
theorem look_rowA (row : Row) (s : Str) : look (rowA row) s = (look row s).map fun g => .tup (intsA g) := by
  induction row with
  | nil => rfl
  | cons a r ih =>
    obtain ⟨k, g⟩ := a
    by_cases h : k = s
    · simp [rowA, look, h]
    · simp only [rowA, List.map_cons, look, List.find?_cons, h, decide_false] at ih ⊢
      exact ih

noncomputable def findT (T : Told) (c : Int) : Option (Int × Nat × Row) := T.find? fun t => decide (t.1 = c)
noncomputable def valT (T : Told) (c : Int) : AV := match findT T c with
  | some t => .ref t.2.1
  | none => .none
noncomputable def foldRow (row : Row) (sts : List Str) (c : Int) : List Int := match sts.findSome? (fun s => look row s) with
  | some g => g
  | none => [c]
noncomputable def foldT (T : Told) (sts : List Str) (c : Int) : List Int := match findT T c with
  | some t => foldRow t.2.2 sts c
  | none => [c]

structure DB (σ : St) (D : DL) (T : Told) (rows : List (Int × AV)) : Prop where
  dr : DR σ D rows
  sorted : (rows.map (·.1)).Pairwise (· < ·)
  len : rows.length ≤ 1000
  rep : ∀ c, 0 ≤ c → 0 < cnt (rows.map (·.1)) c ∧ ∃ s, rows[cnt (rows.map (·.1)) c - 1]? = some (s, valT T c)
  at_ : ∀ t ∈ T, σ.obj t.2.1 = some (.dS (rowA t.2.2))
  small : ∀ t ∈ T, ∀ g ∈ t.2.2, g.2.length ≤ 3

theorem DB.keeps {W : Nat → Prop} {σ σ' D T rows} (x : DB σ D T rows) (wf : WF σ) (k : Keeps W σ σ') (h : ∀ y, (y = D.ld ∨ y = D.m ∨ y = D.lm ∨ y = D.a ∨ y = D.b ∨ ∃ t ∈ T, y = t.2.1) → ¬ W y) : DB σ' D T rows :=
  ⟨⟨k.at wf x.dr.at_ (h _ (.inl rfl)), k.at wf x.dr.mp (h _ (.inr (.inl rfl))), x.dr.rm.keeps wf k fun y hy => by
    rcases hy with rfl | rfl | rfl
    · exact h _ (.inr (.inr (.inl rfl)))
    · exact h _ (.inr (.inr (.inr (.inl rfl))))
    · exact h _ (.inr (.inr (.inr (.inr (.inl rfl)))))⟩, x.sorted, x.len, x.rep, fun t ht => k.at wf (x.at_ t ht) (h _ (.inr (.inr (.inr (.inr (.inr ⟨t, ht, rfl⟩)))))), x.small⟩
theorem DB.keep0 {σ σ' D T rows} (x : DB σ D T rows) (wf : WF σ) (k : Keeps NoW σ σ') : DB σ' D T rows := x.keeps wf k fun zz1 zz2 z => z

theorem findT_mem {T : Told} {c : Int} {t} (h : findT T c = some t) : t ∈ T ∧ t.1 = c := by
  refine ⟨List.mem_of_find?_eq_some h, ?_⟩
  have := List.find?_some h
  simpa using this
theorem look_mem {κ α : Type} [DecidableEq κ] {kvs : List (κ × α)} {k : κ} {v : α} (h : look kvs k = some v) : (k, v) ∈ kvs := by
  unfold look at h
  obtain ⟨kv, h1, h2⟩ := Option.map_eq_some_iff.mp h
  have := List.find?_some h1
  simp at this
  subst this h2
  exact List.mem_of_find?_eq_some h1

noncomputable abbrev stsA (sts : List Str) : AV := .tup (sts.map .str)

noncomputable def gFoldOf : Fs := fun vs σ P => ∃ D T rows c sts, vs = [.int c, .inst 248 D.ld, stsA sts] ∧ DB σ D T rows ∧ 0 ≤ c ∧ P (.tup (intsA (foldT T sts c))) σ

theorem foldof_code {C : Ctx} {p : Params} (hC : C.K = hd.heap_39 p) : CodeN C 4 (.ref 94) gFoldOf := by
  refine forC (Q := fun C => CodeN C 4 (.ref 94) gFoldOf) ?_ hC
  clear hC
  intro prog w h0 p pp loose mg mb KX T
  have hC : (Ctx.mk prog w h0 (hd.heap_39 p) pp loose mg mb KX T).K = hd.heap_39 p := rfl
  have h_Data_get := dget_code hC
  clear hC
  refine CodeN.weakenW (codeDef (defOk_of (names := ["code", "data", "statuses"]) (vars := [("code", 0, false), ("data", 1, false), ("statuses", 2, false), ("known", 3, false), ("status", 4, false)]) rfl rfl rfl rfl rfl rfl rfl (bind3 (fun zz1 zz2 zz3 => rfl)))
    (simCons (simAssign (simMeth (simVar m1) (.cons simConst_str (.cons (simVar m0) .nil (fun zz1 => rfl)) (fun zz1 => rfl)) cls_Data rfl rfl rfl h_Data_get.simN) m3)
    (simCons (simIf (simB_cmp (simVar m3) simConst_none sim_isNot) (simOne (simFor (simI (simVar m2) srcOk_seq) (simT_name m4) (simOne (simIf (simB_cmp (simVar m4) (simVar m3) sim_inS) (simOne (simReturn (simCallT rfl rfl rfl (by decide) (.cons (simSub (simVar m3) (simVar m4)) .nil (fun zz1 => rfl)) simN_tupOf))) simNil)))) simNil)
    (simOne (simReturn (simTup (.cons (simVar m0) .nil (fun zz1 => rfl)))))))) ?_
  rintro vs σ P wf ⟨D, T, rows, c, sts, rfl, B, hc, q⟩
  refine ⟨rfl, ?_⟩
  obtain ⟨hc1, s, hs⟩ := B.rep c hc
  refine ⟨_, rfl, ⟨D.ld, _, rfl, B.dr.at_, rfl⟩, _, rfl, D, rows, c, _, rfl, B.dr, B.sorted, B.len, hc1, hs, ?_⟩
  dsimp only
  unfold valT
  unfold foldT at q
  cases hf : findT T c with
  | none =>
    rw [hf] at q
    refine ⟨_, rfl, rfl, _, rfl, fun h => (nomatch h), fun zz1 => ?_⟩
    exact ⟨_, rfl, q⟩
  | some t =>
    rw [hf] at q
    obtain ⟨hm, rfl⟩ := findT_mem hf
    have ht := B.at_ t hm
    refine ⟨_, rfl, rfl, _, rfl, fun zz1 => ?_, fun h => nomatch h⟩
    refine ⟨_, rfl, ?_⟩
    refine gSeqT ?_
    refine forL_all _ (fun i ρ σ' => σ' = σ ∧ ρ 0 = some (.int t.1) ∧ ρ 3 = some (.ref t.2.1) ∧ (sts.take i).findSome? (fun s => look t.2.2 s) = none) (fun w ρ σ' => σ' = σ ∧ w = .tup (intsA (foldRow t.2.2 sts t.1))) ?_ ?_ ?_ ⟨rfl, rfl, rfl, rfl⟩
    · rintro i v ρ σ' Q hv ⟨rfl, r0, r3, hno⟩ hQ hR
      rw [List.getElem?_map] at hv
      cases hx : sts[i]? with
      | none => rw [hx] at hv; cases hv
      | some x =>
        rw [hx] at hv; cases hv
        refine ⟨_, rfl, _, r3, ⟨_, _, _, rfl, rfl, ht, _, rfl, fun hin => ?_, fun hin => ?_⟩⟩
        · rw [look_rowA] at hin
          cases hl : look t.2.2 x with
          | none => rw [hl] at hin; exact absurd hin (by simp)
          | some g =>
            refine ⟨_, r3, _, rfl, ?_⟩
            first | refine gItemL (ht) ?_ | refine gItemS (ht) ?_ | refine gItemI (ht) ?_
            refine ⟨.tup (intsA g), by rw [look_rowA, hl]; rfl, _, _, rfl, .inl rfl, ?_, ?_⟩
            · have := B.small t hm _ (look_mem hl)
              dsimp only at this
              simp; (first | lia | omega)
            · refine hR _ _ _ ⟨rfl, ?_⟩
              congr 2
              unfold foldRow
              have : sts.findSome? (fun s => look t.2.2 s) = some g := by
                obtain ⟨hi, hxi⟩ := List.getElem?_eq_some_iff.mp hx
                have e1 : sts = sts.take i ++ x :: sts.drop (i + 1) := by rw [← hxi, ← List.drop_eq_getElem_cons hi, List.take_append_drop]
                rw [e1, List.findSome?_append, hno]
                simp [hl]
              rw [this]
        · rw [look_rowA] at hin
          have hl : look t.2.2 x = none := by
            cases h : look t.2.2 x with
            | none => rfl
            | some g => rw [h] at hin; exact absurd hin (by simp)
          refine (hQ (upd ρ 4 (some (.str x))) _ ⟨rfl, r0, r3, ?_⟩ trivial).1
          rw [List.take_add_one, hx, List.findSome?_append, hno]
          simp [hl]
    · rintro ρ σ' ⟨rfl, r0, r3, hno⟩
      refine ⟨_, r0, ?_⟩
      rw [List.length_map, List.take_length] at hno
      have e : foldRow t.2.2 sts t.1 = [t.1] := by unfold foldRow; rw [hno]
      have q' : P (.tup (intsA (foldRow t.2.2 sts t.1))) σ' := q
      rw [e] at q'
      exact q'
    · rintro w ρ σ' ⟨rfl, rfl⟩
      exact q

noncomputable def stsOf (f t : Bool) : List Str := (if t then (["T"] : List Str) else []) ++ (if f then (["F", "C"] : List Str) else ["S", "C"])
noncomputable def gStatuses : Fs := fun vs σ P => ∃ f t, vs = [.bool f, .bool t] ∧ P (stsA (stsOf f t)) σ
theorem statuses_code {C : Ctx} {p : Params} (hC : C.K = hd.heap_39 p) : CodeN C 1 (.ref 101) gStatuses := by
  refine forC (Q := fun C => CodeN C 1 (.ref 101) gStatuses) ?_ hC
  clear hC
  intro prog w h0 p pp loose mg mb KX T
  have hC : (Ctx.mk prog w h0 (hd.heap_39 p) pp loose mg mb KX T).K = hd.heap_39 p := rfl
  clear hC
  refine CodeN.weakenW (codeDef (defOk_of (names := ["is_full", "is_turkic"]) (vars := [("is_full", 0, false), ("is_turkic", 1, false), ("found", 2, false)]) rfl rfl rfl rfl rfl rfl rfl (bind2 (fun zz1 zz2 => rfl)))
    (simCons (simAssign (simIfe (simB_val (simVar m0)) (simTup (.cons simConst_str (.cons simConst_str .nil (fun zz1 => rfl)) (fun zz1 => rfl))) (simTup (.cons simConst_str (.cons simConst_str .nil (fun zz1 => rfl)) (fun zz1 => rfl)))) m2)
    (simOne (simReturn (simIfe (simB_val (simVar m1)) (simBin (simTup (.cons simConst_str .nil (fun zz1 => rfl))) (simVar m2) sim_add) (simVar m2)))))) ?_
  rintro vs σ P wf ⟨f, t, rfl, q⟩
  refine ⟨rfl, ?_⟩
  refine ⟨_, rfl, f, rfl, fun hf => ?_, fun hf => ?_⟩ <;> subst hf <;> refine ⟨_, rfl, t, rfl, fun ht => ?_, fun ht => ?_⟩ <;> subst ht
  · exact ⟨_, rfl, .inr (.inr ⟨_, _, rfl, rfl, by simp, by simp, by simp, q⟩)⟩
  · exact ⟨_, rfl, q⟩
  · exact ⟨_, rfl, .inr (.inr ⟨_, _, rfl, rfl, by simp, by simp, by simp, q⟩)⟩
  · exact ⟨_, rfl, q⟩
end Mine
end

noncomputable section
open PySem PySem.W PyProof.Rows PySem.Calls PySem.Spec
set_option Elab.async false
set_option maxRecDepth 100000
set_option maxHeartbeats 0
set_option linter.all false
namespace Mine

theorem foldT_len {σ D T rows} (B : DB σ D T rows) (sts : List Str) (c : Int) : (foldT T sts c).length ≤ 3 := by
  unfold foldT
  cases hf : findT T c with
  | none => simp
  | some t =>
    dsimp only
    unfold foldRow
    cases h : sts.findSome? (fun s => look t.2.2 s) with
    | none => simp
    | some g =>
      obtain ⟨s, _, hs⟩ := List.exists_of_findSome?_eq_some h
      exact B.small t (findT_mem hf).1 _ (look_mem hs)

noncomputable def folds (T : Told) (sts : List Str) (cs : List Int) : List Int := cs.flatMap (foldT T sts)

theorem folds_len {σ D T rows} (B : DB σ D T rows) (sts : List Str) (cs : List Int) : (folds T sts cs).length ≤ 3 * cs.length := by
  induction cs with
  | nil => simp [folds]
  | cons c r ih =>
    have := foldT_len B sts c
    simp only [folds, List.flatMap_cons, List.length_append, List.length_cons] at ih ⊢
    (first | lia | omega)

noncomputable def gFoldBy : Fs := fun vs σ P => ∃ D T rows l cs sts, vs = [.ref l, .inst 248 D.ld, stsA sts] ∧ DB σ D T rows ∧ σ.obj l = some (.list (intsA cs)) ∧ (∀ c ∈ cs, 0 ≤ c) ∧ cs.length ≤ 1000 ∧
  ∀ σ' r, Keeps NoW σ σ' → σ.n ≤ r → σ'.obj r = some (.list (intsA (folds T sts cs))) → P (.ref r) σ'

theorem foldby_code {C : Ctx} {p : Params} (hC : C.K = hd.heap_39 p) : CodeN C 5 (.ref 108) gFoldBy := by
  refine forC (Q := fun C => CodeN C 5 (.ref 108) gFoldBy) ?_ hC
  clear hC
  intro prog w h0 p pp loose mg mb KX T
  have hC : (Ctx.mk prog w h0 (hd.heap_39 p) pp loose mg mb KX T).K = hd.heap_39 p := rfl
  have h_fold_of := foldof_code hC
  clear hC
  refine CodeN.weakenW (codeDef (defOk_of (names := ["text", "data", "statuses"]) (vars := [("text", 0, false), ("data", 1, false), ("statuses", 2, false), ("found", 3, false), ("code", 4, false)]) rfl rfl rfl rfl rfl rfl rfl (bind3 (fun zz1 zz2 zz3 => rfl)))
    (simCons (simAssign (simList .nil) m3)
    (simCons (simFor (simI (simVar m0) srcOk_seq) (simT_name m4) (simOne (simExpr (simExtend (simVar m3) (.cons (simCallFn rfl rfl rfl (.cons (simVar m4) (.cons (simVar m1) (.cons (simVar m2) .nil (fun zz1 => rfl)) (fun zz1 => rfl)) (fun zz1 => rfl)) h_fold_of.simN) .nil (fun zz1 => rfl))))))
    (simOne (simReturn (simVar m3)))))) ?_
  rintro vs σ P wf ⟨D, T, rows, l, cs, sts, rfl, B, e, hc, hz, q⟩
  refine ⟨rfl, ?_⟩
  have e1 := push_old (o := .list []) wf e
  have hl := wf _ _ e
  refine ⟨_, rfl, ?_⟩
  refine gSeqL (e1) ?_
  refine forL_all _ (fun i ρ σ' => Keeps NoW σ σ' ∧ ρ 1 = some (.inst 248 D.ld) ∧ ρ 2 = some (stsA sts) ∧ ρ 3 = some (.ref σ.n) ∧ σ'.obj σ.n = some (.list (intsA (folds T sts (cs.take i))))) (fun zz1 zz2 zz3 => False) ?_ ?_ (fun zz1 zz2 zz3 h => h.elim)
    ⟨(Keeps.refl wf).pushI, rfl, rfl, rfl, push_new⟩
  · rintro i v ρ σ' Q hv ⟨K, r1, r2, r3, el⟩ hQ hR
    rw [List.getElem?_map] at hv
    cases hx : cs[i]? with
    | none => rw [hx] at hv; cases hv
    | some c =>
      rw [hx] at hv; cases hv
      have B' := B.keep0 wf K
      have hi := (List.getElem?_eq_some_iff.mp hx).1
      refine ⟨_, r3, ⟨_, _, rfl, el⟩, _, rfl, _, r1, _, r2, D, T, rows, c, sts, rfl, B', hc c (List.mem_of_getElem? hx), _, _, _, rfl, el, ?_, rfl, ?_⟩
      · have h1 := folds_len B sts (cs.take i)
        have h2 := foldT_len B sts c
        simp only [List.length_map, List.length_take] at h1 ⊢
        (first | lia | omega)
      · have hlt : σ.n < σ'.n := K.wf _ _ el
        refine (hQ (upd ρ 4 (some (.int c))) _ ⟨K.setI hlt fun h => absurd h (Nat.lt_irrefl _), r1, r2, r3, ?_⟩ ?_).1
        · rw [set_self, List.take_add_one, hx]
          simp [folds]
        · exact set_other (K.mono' wf _ _ e) (Nat.ne_of_lt hl)
  · rintro ρ σ' ⟨K, r1, r2, r3, el⟩
    refine ⟨_, r3, q σ' σ.n K (Nat.le_refl _) ?_⟩
    rw [List.length_map, List.take_length] at el
    exact el

noncomputable def gFoldFull : Fs := fun vs σ P => ∃ D T rows l cs t, vs = [.ref l, .inst 248 D.ld, .bool t] ∧ DB σ D T rows ∧ σ.obj l = some (.list (intsA cs)) ∧ (∀ c ∈ cs, 0 ≤ c) ∧ cs.length ≤ 1000 ∧
  ∀ σ' r, Keeps NoW σ σ' → σ.n ≤ r → σ'.obj r = some (.list (intsA (folds T (stsOf true t) cs))) → P (.ref r) σ'
theorem foldfull_code {C : Ctx} {p : Params} (hC : C.K = hd.heap_39 p) : CodeN C 6 (.ref 116) gFoldFull := by
  refine forC (Q := fun C => CodeN C 6 (.ref 116) gFoldFull) ?_ hC
  clear hC
  intro prog w h0 p pp loose mg mb KX T
  have hC : (Ctx.mk prog w h0 (hd.heap_39 p) pp loose mg mb KX T).K = hd.heap_39 p := rfl
  have h_fold_by := foldby_code hC
  have h_fold_statuses := (statuses_code hC).mono (show 1 ≤ 5 by decide)
  clear hC
  refine CodeN.weakenW (codeDef (defOk_of (names := ["text", "data", "is_turkic"]) (vars := [("text", 0, false), ("data", 1, false), ("is_turkic", 2, false)]) rfl rfl rfl rfl rfl rfl rfl (bind3d rfl rfl rfl (fun zz1 zz2 zz3 => rfl) (fun zz1 zz2 zz3 => rfl)))
    (simOne (simReturn (simCallFn rfl rfl rfl (.cons (simVar m0) (.cons (simVar m1) (.cons (simCallFn rfl rfl rfl (.cons simConst_bool (.cons (simVar m2) .nil (fun zz1 => rfl)) (fun zz1 => rfl)) h_fold_statuses.simN) .nil (fun zz1 => rfl)) (fun zz1 => rfl)) (fun zz1 => rfl)) h_fold_by.simN)))) ?_
  rintro vs σ P wf ⟨D, T, rows, l, cs, t, rfl, B, e, hc, hz, q⟩
  refine ⟨rfl, ?_⟩
  exact ⟨_, rfl, _, rfl, _, rfl, true, t, rfl, D, T, rows, l, cs, _, rfl, B, e, hc, hz, q⟩
theorem caseless_code {C : Ctx} {p : Params} (hC : C.K = hd.heap_39 p) : CodeN C 7 (.ref 124) gFoldFull := by
  refine forC (Q := fun C => CodeN C 7 (.ref 124) gFoldFull) ?_ hC
  clear hC
  intro prog w h0 p pp loose mg mb KX T
  have hC : (Ctx.mk prog w h0 (hd.heap_39 p) pp loose mg mb KX T).K = hd.heap_39 p := rfl
  have h_fold_full := foldfull_code hC
  clear hC
  refine CodeN.weakenW (codeDef (defOk_of (names := ["text", "data", "is_turkic"]) (vars := [("text", 0, false), ("data", 1, false), ("is_turkic", 2, false)]) rfl rfl rfl rfl rfl rfl rfl (bind3d rfl rfl rfl (fun zz1 zz2 zz3 => rfl) (fun zz1 zz2 zz3 => rfl)))
    (simOne (simReturn (simCallFn rfl rfl rfl (.cons (simVar m0) (.cons (simVar m1) (.cons (simVar m2) .nil (fun zz1 => rfl)) (fun zz1 => rfl)) (fun zz1 => rfl)) h_fold_full.simN)))) ?_
  rintro vs σ P wf ⟨D, T, rows, l, cs, t, rfl, B, e, hc, hz, q⟩
  refine ⟨rfl, ?_⟩
  exact ⟨_, rfl, _, rfl, _, rfl, D, T, rows, l, cs, t, rfl, B, e, hc, hz, q⟩

noncomputable def gMatches : Fs := fun vs σ P => ∃ D T rows l l2 cs cs2 t, vs = [.ref l, .ref l2, .inst 248 D.ld, .bool t] ∧ DB σ D T rows ∧ σ.obj l = some (.list (intsA cs)) ∧ σ.obj l2 = some (.list (intsA cs2)) ∧ (∀ c ∈ cs, 0 ≤ c) ∧ (∀ c ∈ cs2, 0 ≤ c) ∧ cs.length ≤ 1000 ∧ cs2.length ≤ 1000 ∧
  ∀ σ', Keeps NoW σ σ' → P (.bool (decide (folds T (stsOf true t) cs = folds T (stsOf true t) cs2))) σ'
theorem matches_code {C : Ctx} {p : Params} (hC : C.K = hd.heap_39 p) : CodeN C 8 (.ref 132) gMatches := by
  refine forC (Q := fun C => CodeN C 8 (.ref 132) gMatches) ?_ hC
  clear hC
  intro prog w h0 p pp loose mg mb KX T
  have hC : (Ctx.mk prog w h0 (hd.heap_39 p) pp loose mg mb KX T).K = hd.heap_39 p := rfl
  have h_caseless_default := caseless_code hC
  clear hC
  refine CodeN.weakenW (codeDef (defOk_of (names := ["one", "other", "data", "is_turkic"]) (vars := [("one", 0, false), ("other", 1, false), ("data", 2, false), ("is_turkic", 3, false)]) rfl rfl rfl rfl rfl rfl rfl (bind4d rfl rfl rfl (fun zz1 zz2 zz3 zz4 => rfl) (fun zz1 zz2 zz3 zz4 => rfl)))
    (simOne (simReturn (simCmp (simCallFn rfl rfl rfl (.cons (simVar m0) (.cons (simVar m2) (.cons (simVar m3) .nil (fun zz1 => rfl)) (fun zz1 => rfl)) (fun zz1 => rfl)) h_caseless_default.simN) (simCallFn rfl rfl rfl (.cons (simVar m1) (.cons (simVar m2) (.cons (simVar m3) .nil (fun zz1 => rfl)) (fun zz1 => rfl)) (fun zz1 => rfl)) h_caseless_default.simN) sim_eq)))) ?_
  rintro vs σ P wf ⟨D, T, rows, l, l2, cs, cs2, t, rfl, B, e, e2, hc, hc2, hz, hz2, q⟩
  refine ⟨rfl, ?_⟩
  refine ⟨_, rfl, _, rfl, _, rfl, D, T, rows, l, cs, t, rfl, B, e, hc, hz, ?_⟩
  intro σ1 r1 K1 h1 e1
  refine ⟨_, rfl, _, rfl, _, rfl, D, T, rows, l2, cs2, t, rfl, B.keep0 wf K1, K1.mono' wf _ _ e2, hc2, hz2, ?_⟩
  intro σ2 r2 K2 h2 e2'
  exact ⟨_, EqR.lints (K2.mono' K1.wf _ _ e1) e2', q σ2 (K1.trans K2)⟩
end Mine
end

noncomputable section
open PySem PySem.W PyProof.Rows PySem.Calls PySem.Spec
set_option Elab.async false
set_option maxRecDepth 100000
set_option maxHeartbeats 0
set_option linter.all false
namespace Mine

/-! ### dicts of lists -/
section
variable {κ : Type} [DecidableEq κ]
noncomputable abbrev MM (κ : Type) := List (κ × Nat × List Int)
noncomputable def kvM (m : MM κ) : List (κ × AV) := m.map fun e => (e.1, .ref e.2.1)
noncomputable def locs (m : MM κ) : List Nat := m.map (·.2.1)
noncomputable def holds (σ : St) (m : MM κ) : Prop := ∀ e ∈ m, σ.obj e.2.1 = some (.list (intsA e.2.2))
noncomputable def locM (m : MM κ) (k : κ) : Option (Nat × List Int) := (m.find? fun e => decide (e.1 = k)).map (·.2)
noncomputable def getM (m : MM κ) (k : κ) : List Int := match locM m k with
  | some e => e.2
  | none => []
noncomputable def addM : MM κ → κ → Nat → Int → MM κ
  | [], k, loc, c => [(k, loc, [c])]
  | e :: r, k, loc, c => if e.1 = k then (e.1, e.2.1, e.2.2 ++ [c]) :: r else e :: addM r k loc c

theorem look_kvM (m : MM κ) (k : κ) : look (kvM m) k = (locM m k).map fun e => .ref e.1 := by
  induction m with
  | nil => rfl
  | cons e r ih =>
    by_cases h : e.1 = k
    · simp [kvM, look, locM, h]
    · simp only [kvM, List.map_cons, look, locM, List.find?_cons, h, decide_false] at ih ⊢
      exact ih
theorem locM_mem {m : MM κ} {k : κ} {y : Nat} {xs : List Int} (h : locM m k = some (y, xs)) : (k, y, xs) ∈ m := by
  unfold locM at h
  obtain ⟨e, h1, h2⟩ := Option.map_eq_some_iff.mp h
  have := List.find?_some h1
  simp at this
  subst this
  have := List.mem_of_find?_eq_some h1
  rw [← h2] at *
  exact this
theorem getM_add (m : MM κ) (k : κ) (loc : Nat) (c : Int) (k' : κ) : getM (addM m k loc c) k' = if k = k' then getM m k ++ [c] else getM m k' := by
  induction m with
  | nil =>
    by_cases h : k = k'
    · simp [addM, getM, locM, h]
    · simp [addM, getM, locM, h]
  | cons e r ih =>
    unfold addM
    by_cases h : e.1 = k
    · subst h
      by_cases hk : e.1 = k'
      · subst hk; simp [getM, locM]
      · simp [getM, locM, hk]
    · rw [if_neg h]
      by_cases hk : e.1 = k'
      · subst hk
        have : ¬ k = e.1 := Ne.symm h
        simp [getM, locM, this]
      · have e1 : getM (e :: addM r k loc c) k' = getM (addM r k loc c) k' := by simp [getM, locM, hk]
        have e2 : getM (e :: r) k' = getM r k' := by simp [getM, locM, hk]
        have e3 : getM (e :: r) k = getM r k := by simp [getM, locM, h]
        rw [e1, e2, e3, ih]
theorem kvM_present (m : MM κ) (k : κ) (loc : Nat) (c : Int) (h : locM m k ≠ none) : kvM (addM m k loc c) = kvM m ∧ locs (addM m k loc c) = locs m := by
  induction m with
  | nil => exact absurd rfl h
  | cons e r ih =>
    unfold addM
    by_cases hk : e.1 = k
    · rw [if_pos hk]; exact ⟨rfl, rfl⟩
    · rw [if_neg hk]
      have hr : locM r k ≠ none := by simpa [locM, hk] using h
      obtain ⟨a, b⟩ := ih hr
      exact ⟨by simp only [kvM, List.map_cons] at a ⊢; rw [a], by simp only [locs, List.map_cons] at b ⊢; rw [b]⟩
theorem kvM_absent (m : MM κ) (k : κ) (loc : Nat) (c : Int) (h : locM m k = none) : addM m k loc c = m ++ [(k, loc, [c])] := by
  induction m with
  | nil => rfl
  | cons e r ih =>
    unfold addM
    by_cases hk : e.1 = k
    · simp [locM, hk] at h
    · rw [if_neg hk]
      have hr : locM r k = none := by simpa [locM, hk] using h
      rw [ih hr]; rfl
theorem holds_present {σ σ' : St} {m : MM κ} {k : κ} {loc : Nat} {c : Int} {y : Nat} {xs : List Int} (hh : holds σ m) (nd : (locs m).Nodup) (h : locM m k = some (y, xs))
    (ho : ∀ l ∈ locs m, l ≠ y → σ'.obj l = σ.obj l) (hy : σ'.obj y = some (.list (intsA (xs ++ [c])))) : holds σ' (addM m k loc c) := by
  induction m with
  | nil => cases h
  | cons e r ih =>
    have nd' := List.nodup_cons.mp nd
    unfold addM
    by_cases hk : e.1 = k
    · rw [if_pos hk]
      simp [locM, hk] at h
      intro e' he'
      rcases List.mem_cons.mp he' with rfl | he'
      · show σ'.obj e.2.1 = _
        rw [h]; exact hy
      · have hne : e'.2.1 ≠ y := by
          intro he
          apply nd'.1
          show e.2.1 ∈ _
          rw [show e.2.1 = y from by rw [h], ← he]
          exact List.mem_map.mpr ⟨e', he', rfl⟩
        rw [ho _ (List.mem_map.mpr ⟨e', .tail _ he', rfl⟩) hne]
        exact hh e' (.tail _ he')
    · rw [if_neg hk]
      have hr : locM r k = some (y, xs) := by simpa [locM, hk] using h
      have hm := locM_mem hr
      intro e' he'
      rcases List.mem_cons.mp he' with rfl | he'
      · have hne : e'.2.1 ≠ y := fun he => nd'.1 (by show e'.2.1 ∈ _; rw [he]; exact List.mem_map.mpr ⟨_, hm, rfl⟩)
        rw [ho _ (.head _) hne]
        exact hh e' (.head _)
      · exact ih (fun x hx => hh x (.tail _ hx)) nd'.2 hr (fun l hl => ho l (.tail _ hl)) e' he'
theorem holds_other {σ σ' : St} {m : MM κ} (hh : holds σ m) (ho : ∀ l ∈ locs m, σ'.obj l = σ.obj l) : holds σ' m := fun e he => (ho _ (List.mem_map.mpr ⟨e, he, rfl⟩)).trans (hh e he)
theorem holds_absent {σ σ' : St} {m : MM κ} {k : κ} {loc : Nat} {c : Int} (hh : holds σ m) (h : locM m k = none) (ho : ∀ l ∈ locs m, σ'.obj l = σ.obj l) (hy : σ'.obj loc = some (.list (intsA [c]))) : holds σ' (addM m k loc c) := by
  rw [kvM_absent m k loc c h]
  intro e he
  rcases List.mem_append.mp he with he | he
  · exact holds_other hh ho e he
  · simp at he
    subst he
    exact hy
theorem addM_length (m : MM κ) (k : κ) (loc : Nat) (c : Int) : (addM m k loc c).length ≤ m.length + 1 := by
  induction m with
  | nil => exact Nat.le_refl _
  | cons e r ih => unfold addM; split <;> simp <;> (first | lia | omega)
theorem addM_small (m : MM κ) (k : κ) (loc : Nat) (c : Int) (b : Nat) (h : ∀ e ∈ m, e.2.2.length ≤ b) : ∀ e ∈ addM m k loc c, e.2.2.length ≤ b + 1 := by
  induction m with
  | nil => intro e he; simp [addM] at he; subst he; simp
  | cons x r ih =>
    unfold addM
    intro e he
    split at he
    · rcases List.mem_cons.mp he with rfl | he
      · have := h x (.head _); simp; (first | lia | omega)
      · have := h e (.tail _ he); (first | lia | omega)
    · rcases List.mem_cons.mp he with rfl | he
      · have := h e (.head _); (first | lia | omega)
      · exact ih (fun y hy => h y (.tail _ hy)) e he
end
end Mine
end

noncomputable section
open PySem PySem.W PyProof.Rows PySem.Calls PySem.Spec
set_option Elab.async false
set_option maxRecDepth 100000
set_option maxHeartbeats 0
set_option linter.all false
namespace Mine

theorem gNe_ints {σ : St} {a b : Int} {P : AV → St → Prop} (q : P (.bool (!decide (a = b))) σ) : gNe' (.int a) (.int b) σ P := by
  refine .inr (.inr ⟨.int a, .int b, .int a, .int b, rfl, rfl, rfl, ?_⟩)
  have : PySem.Spec.same (.int a) (.int b) = decide (a = b) := by simp [PySem.Spec.same]; rfl
  rw [this]; exact q

theorem stepT {σ : St} (wf : WF σ) {m : MM (List Int)} {o : Nat} (e : σ.obj o = some (.dT (kvM m))) (hh : holds σ m) (nd : (locs m).Nodup) (ks : List Int) (c : Int) (hz : m.length ≤ 900) (hs : ∀ e ∈ m, e.2.2.length ≤ 900) {r : Option AV} (hr : r = some (.int c)) {Q : AV → St → Prop}
    (q : ∀ σ', Keeps (fun y => y = o ∨ y ∈ locs m) σ σ' → σ'.obj o = some (.dT (kvM (addM m ks σ.n c))) → holds σ' (addM m ks σ.n c) → Q .none σ') :
    gSetdT [.ref o, .tup (intsA ks), .ref σ.n] (σ.push (.list [])) (fun v σ => isList v σ ∧ ∃ u, r = some u ∧ gAppend [v, u] σ Q) := by
  have e1 := push_old (o := .list []) wf e
  have wf1 := push_wf (o := .list []) wf
  have ho := wf _ _ e
  have hlo : ∀ l ∈ locs m, l ≠ o ∧ l < σ.n := by
    intro l hl
    obtain ⟨x, hx, rfl⟩ := List.mem_map.mp hl
    exact ⟨obj_ne (hh x hx) e (by simp), wf _ _ (hh x hx)⟩
  refine ⟨o, _, ks, _, rfl, e1, by simpa [kvM] using hz, fun v hv => ?_, fun hn => ?_⟩
  · rw [look_kvM] at hv
    obtain ⟨⟨y, xs⟩, hl, rfl⟩ := Option.map_eq_some_iff.mp hv
    have hm := locM_mem hl
    have hy := hh _ hm
    have hy1 := push_old (o := .list []) wf hy
    have hyl : y ∈ locs m := List.mem_map.mpr ⟨_, hm, rfl⟩
    refine ⟨⟨y, _, rfl, hy1⟩, _, hr, y, _, _, rfl, hy1, by have := hs _ hm; simp at this ⊢; (first | lia | omega), ?_⟩
    obtain ⟨k1, k2⟩ := kvM_present m ks σ.n c (by rw [hl]; simp)
    have K1 : Keeps (fun y => y = o ∨ y ∈ locs m) σ ((σ.push (.list [])).set y (.list (intsA xs ++ [.int c]))) := (Keeps.refl wf).pushI.setI (wf1 _ _ hy1) fun zz1 => .inr hyl
    refine q _ K1 ?_ ?_
    · rw [k1]; exact set_other e1 (Ne.symm (hlo y hyl).1)
    · refine holds_present hh nd hl (fun l hl2 hne => ?_) ?_
      · obtain ⟨x, hx, rfl⟩ := List.mem_map.mp hl2
        rw [hh x hx]
        exact set_other (push_old wf (hh x hx)) hne
      · rw [set_self]; simp
  · rw [look_kvM] at hn
    have hl : locM m ks = none := by simpa using hn
    have hne : o ≠ σ.n := Nat.ne_of_lt ho
    have e2 := set_other (o := .dT (kvM m ++ [(ks, .ref σ.n)])) (push_new (σ := σ) (o := .list [])) (Ne.symm hne)
    refine ⟨⟨σ.n, _, rfl, e2⟩, _, hr, σ.n, _, _, rfl, e2, by simp, ?_⟩
    have K1 : Keeps (fun y => y = o ∨ y ∈ locs m) σ (((σ.push (.list [])).set o (.dT (kvM m ++ [(ks, .ref σ.n)]))).set σ.n (.list ([] ++ [.int c]))) :=
      ((Keeps.refl wf).pushI.setI (wf1 _ _ e1) fun zz1 => .inl rfl).setI (Nat.lt_succ_self _) fun h => absurd h (Nat.lt_irrefl _)
    refine q _ K1 ?_ ?_
    · rw [kvM_absent m ks σ.n c hl]
      refine (set_other set_self hne).trans ?_
      simp [kvM]
    · refine holds_absent hh hl (fun l hl2 => ?_) ?_
      · obtain ⟨x, hx, rfl⟩ := List.mem_map.mp hl2
        rw [hh x hx]
        exact set_other (set_other (push_old wf (hh x hx)) (hlo _ hl2).1) (Nat.ne_of_lt (hlo _ hl2).2)
      · rw [set_self]; rfl
theorem stepI {σ : St} (wf : WF σ) {m : MM Int} {o : Nat} (e : σ.obj o = some (.dI (kvM m))) (hh : holds σ m) (nd : (locs m).Nodup) (ks : Int) (c : Int) (hz : m.length ≤ 900) (hs : ∀ e ∈ m, e.2.2.length ≤ 900) {r : Option AV} (hr : r = some (.int c)) {Q : AV → St → Prop}
    (q : ∀ σ', Keeps (fun y => y = o ∨ y ∈ locs m) σ σ' → σ'.obj o = some (.dI (kvM (addM m ks σ.n c))) → holds σ' (addM m ks σ.n c) → Q .none σ') :
    gSetdI [.ref o, .int ks, .ref σ.n] (σ.push (.list [])) (fun v σ => isList v σ ∧ ∃ u, r = some u ∧ gAppend [v, u] σ Q) := by
  have e1 := push_old (o := .list []) wf e
  have wf1 := push_wf (o := .list []) wf
  have ho := wf _ _ e
  have hlo : ∀ l ∈ locs m, l ≠ o ∧ l < σ.n := by
    intro l hl
    obtain ⟨x, hx, rfl⟩ := List.mem_map.mp hl
    exact ⟨obj_ne (hh x hx) e (by simp), wf _ _ (hh x hx)⟩
  refine ⟨o, _, ks, _, rfl, e1, by simpa [kvM] using hz, fun v hv => ?_, fun hn => ?_⟩
  · rw [look_kvM] at hv
    obtain ⟨⟨y, xs⟩, hl, rfl⟩ := Option.map_eq_some_iff.mp hv
    have hm := locM_mem hl
    have hy := hh _ hm
    have hy1 := push_old (o := .list []) wf hy
    have hyl : y ∈ locs m := List.mem_map.mpr ⟨_, hm, rfl⟩
    refine ⟨⟨y, _, rfl, hy1⟩, _, hr, y, _, _, rfl, hy1, by have := hs _ hm; simp at this ⊢; (first | lia | omega), ?_⟩
    obtain ⟨k1, k2⟩ := kvM_present m ks σ.n c (by rw [hl]; simp)
    have K1 : Keeps (fun y => y = o ∨ y ∈ locs m) σ ((σ.push (.list [])).set y (.list (intsA xs ++ [.int c]))) := (Keeps.refl wf).pushI.setI (wf1 _ _ hy1) fun zz1 => .inr hyl
    refine q _ K1 ?_ ?_
    · rw [k1]; exact set_other e1 (Ne.symm (hlo y hyl).1)
    · refine holds_present hh nd hl (fun l hl2 hne => ?_) ?_
      · obtain ⟨x, hx, rfl⟩ := List.mem_map.mp hl2
        rw [hh x hx]
        exact set_other (push_old wf (hh x hx)) hne
      · rw [set_self]; simp
  · have hn' := hn
    rw [look_kvM] at hn
    have hl : locM m ks = none := by simpa using hn
    have hne : o ≠ σ.n := Nat.ne_of_lt ho
    have hput : put (kvM m) ks (.ref σ.n) = kvM m ++ [(ks, AV.ref σ.n)] := by
      unfold put
      rw [if_neg]
      intro h
      obtain ⟨x, hx, hk⟩ := List.any_eq_true.mp h
      have hk : x.1 = ks := by simpa using hk
      unfold look at hn'
      have := Option.map_eq_none_iff.mp hn'
      rw [List.find?_eq_none] at this
      exact this x hx (by simpa using hk)
    rw [hput]
    have e2 := set_other (o := .dI (kvM m ++ [(ks, .ref σ.n)])) (push_new (σ := σ) (o := .list [])) (Ne.symm hne)
    refine ⟨⟨σ.n, _, rfl, e2⟩, _, hr, σ.n, _, _, rfl, e2, by simp, ?_⟩
    have K1 : Keeps (fun y => y = o ∨ y ∈ locs m) σ (((σ.push (.list [])).set o (.dI (kvM m ++ [(ks, .ref σ.n)]))).set σ.n (.list ([] ++ [.int c]))) :=
      ((Keeps.refl wf).pushI.setI (wf1 _ _ e1) fun zz1 => .inl rfl).setI (Nat.lt_succ_self _) fun h => absurd h (Nat.lt_irrefl _)
    refine q _ K1 ?_ ?_
    · rw [kvM_absent m ks σ.n c hl]
      refine (set_other set_self hne).trans ?_
      simp [kvM]
    · refine holds_absent hh hl (fun l hl2 => ?_) ?_
      · obtain ⟨x, hx, rfl⟩ := List.mem_map.mp hl2
        rw [hh x hx]
        exact set_other (set_other (push_old wf (hh x hx)) (hlo _ hl2).1) (Nat.ne_of_lt (hlo _ hl2).2)
      · rw [set_self]; rfl
theorem locs_add {κ : Type} [DecidableEq κ] (m : MM κ) (k : κ) (loc : Nat) (c : Int) : locs (addM m k loc c) = locs m ∨ locs (addM m k loc c) = locs m ++ [loc] := by
  cases h : locM m k with
  | none => right; rw [kvM_absent m k loc c h]; simp [locs]
  | some e => left; exact (kvM_present m k loc c (by rw [h]; simp)).2

structure IX (σ : St) (li : Nat) (ld : Nat) (t : Bool) (o1 om ow : Nat) (m1 mm : MM (List Int)) (mw : MM Int) (nb k : Nat) : Prop where
  at_ : σ.obj li = some (.dS [("data", .inst 248 ld), ("simple", stsA (stsOf false t)), ("full", stsA (stsOf true t)), ("to_one", .ref o1), ("to_many", .ref om), ("to_whole", .ref ow)])
  e1 : σ.obj o1 = some (.dT (kvM m1))
  em : σ.obj om = some (.dT (kvM mm))
  ew : σ.obj ow = some (.dI (kvM mw))
  h1 : holds σ m1
  hm : holds σ mm
  hw : holds σ mw
  nd : (locs m1 ++ locs mm ++ locs mw).Nodup
  ne : o1 ≠ om
  ge : nb ≤ o1 ∧ nb ≤ om ∧ nb ≤ ow ∧ ∀ l ∈ locs m1 ++ locs mm ++ locs mw, nb ≤ l
  z : m1.length ≤ k ∧ mm.length ≤ k ∧ mw.length ≤ k
  z1 : ∀ e ∈ m1, e.2.2.length ≤ k
  zm : ∀ e ∈ mm, e.2.2.length ≤ k
  zw : ∀ e ∈ mw, e.2.2.length ≤ k

section
variable {σ σ' : St} {li ld : Nat} {t : Bool} {o1 om ow : Nat} {m1 mm : MM (List Int)} {mw : MM Int} {nb k : Nat}

theorem IX.lt (x : IX σ li ld t o1 om ow m1 mm mw nb k) (wf : WF σ) : ∀ l ∈ locs m1 ++ locs mm ++ locs mw, l < σ.n := by
  intro l hl
  rcases List.mem_append.mp hl with hl | hl
  · rcases List.mem_append.mp hl with hl | hl
    · obtain ⟨e, he, rfl⟩ := List.mem_map.mp hl; exact wf _ _ (x.h1 e he)
    · obtain ⟨e, he, rfl⟩ := List.mem_map.mp hl; exact wf _ _ (x.hm e he)
  · obtain ⟨e, he, rfl⟩ := List.mem_map.mp hl; exact wf _ _ (x.hw e he)

theorem IX.keeps {W : Nat → Prop} (x : IX σ li ld t o1 om ow m1 mm mw nb k) (wf : WF σ) (K : Keeps W σ σ') (h : ∀ y, y = li ∨ nb ≤ y → ¬ W y) : IX σ' li ld t o1 om ow m1 mm mw nb k := by
  obtain ⟨g1, gm, gw, gl⟩ := x.ge
  refine ⟨K.at wf x.at_ (h _ (.inl rfl)), K.at wf x.e1 (h _ (.inr g1)), K.at wf x.em (h _ (.inr gm)), K.at wf x.ew (h _ (.inr gw)), fun e he => ?_, fun e he => ?_, fun e he => ?_, x.nd, x.ne, x.ge, x.z, x.z1, x.zm, x.zw⟩
  · exact K.at wf (x.h1 e he) (h _ (.inr (gl _ (List.mem_append.mpr (.inl (List.mem_append.mpr (.inl (List.mem_map.mpr ⟨e, he, rfl⟩))))))))
  · exact K.at wf (x.hm e he) (h _ (.inr (gl _ (List.mem_append.mpr (.inl (List.mem_append.mpr (.inr (List.mem_map.mpr ⟨e, he, rfl⟩))))))))
  · exact K.at wf (x.hw e he) (h _ (.inr (gl _ (List.mem_append.mpr (.inr (List.mem_map.mpr ⟨e, he, rfl⟩))))))

theorem nodup_fresh {a b c : List Nat} {n : Nat} (h : (a ++ b ++ c).Nodup) (hn : ∀ l ∈ a ++ b ++ c, l < n) : (a ++ [n] ++ b ++ c).Nodup ∧ (a ++ (b ++ [n]) ++ c).Nodup ∧ (a ++ b ++ (c ++ [n])).Nodup := by
  have hnn : n ∉ a ++ b ++ c := fun hm => Nat.lt_irrefl _ (hn n hm)
  have h0 : (n :: (a ++ b ++ c)).Nodup := List.nodup_cons.mpr ⟨hnn, h⟩
  refine ⟨?_, ?_, ?_⟩ <;> refine (List.Perm.nodup_iff ?_).mp h0
  · have : a ++ [n] ++ b ++ c = a ++ n :: (b ++ c) := by simp
    rw [this, List.append_assoc]
    exact List.perm_middle.symm
  · have : a ++ (b ++ [n]) ++ c = (a ++ b) ++ n :: c := by simp
    rw [this]
    exact List.perm_middle.symm
  · have : a ++ b ++ (c ++ [n]) = (a ++ b ++ c) ++ [n] := by simp
    rw [this]
    exact (List.perm_append_singleton n _).symm

theorem IX.step1 (x : IX σ li ld t o1 om ow m1 mm mw nb k) (wf : WF σ) {ks c} (K : Keeps (fun y => y = o1 ∨ y ∈ locs m1) σ σ') (e : σ'.obj o1 = some (.dT (kvM (addM m1 ks σ.n c)))) (h : holds σ' (addM m1 ks σ.n c)) (hli : nb ≤ σ.n) :
    IX σ' li ld t o1 om ow (addM m1 ks σ.n c) mm mw nb (k + 1) := by
  have ndp := List.nodup_append.mp x.nd
  have nda := List.nodup_append.mp ndp.1
  have hl1 : ∀ l ∈ locs m1, ∃ xs, σ.obj l = some (.list xs) := fun l hl => by obtain ⟨y, hy, rfl⟩ := List.mem_map.mp hl; exact ⟨_, x.h1 y hy⟩
  have off : ∀ y o, σ.obj y = some o → (∀ xs, o ≠ .list xs) → y ≠ o1 → ¬ (y = o1 ∨ y ∈ locs m1) := fun y o hy ho hne hor => by
    rcases hor with h | h
    · exact hne h
    · obtain ⟨xs, hx⟩ := hl1 y h
      rw [hy] at hx; cases hx; exact ho _ rfl
  refine ⟨K.at wf x.at_ (off _ _ x.at_ (fun zz1 h => nomatch h) (obj_ne x.at_ x.e1 (by simp))), e, K.at wf x.em (off _ _ x.em (fun zz1 h => nomatch h) (Ne.symm x.ne)), K.at wf x.ew (off _ _ x.ew (fun zz1 h => nomatch h) (obj_ne x.ew x.e1 (by simp))), h,
    fun y hy => K.at wf (x.hm y hy) fun hor => ?_, fun y hy => K.at wf (x.hw y hy) fun hor => ?_, ?_, x.ne, ⟨x.ge.1, x.ge.2.1, x.ge.2.2.1, ?_⟩, ⟨?_, Nat.le_succ_of_le x.z.2.1, Nat.le_succ_of_le x.z.2.2⟩, addM_small _ _ _ _ _ x.z1, fun y hy => Nat.le_succ_of_le (x.zm y hy), fun y hy => Nat.le_succ_of_le (x.zw y hy)⟩
  · rcases hor with h | h
    · exact obj_ne (x.hm y hy) x.e1 (by simp) h
    · exact nda.2.2 _ h _ (List.mem_map.mpr ⟨y, hy, rfl⟩) rfl
  · rcases hor with h | h
    · exact obj_ne (x.hw y hy) x.e1 (by simp) h
    · exact ndp.2.2 _ (List.mem_append.mpr (.inl h)) _ (List.mem_map.mpr ⟨y, hy, rfl⟩) rfl
  · rcases locs_add m1 ks σ.n c with h | h <;> rw [h]
    · exact x.nd
    · have := (nodup_fresh x.nd (x.lt wf)).1
      exact this
  · intro l hl
    rcases locs_add m1 ks σ.n c with h | h <;> rw [h] at hl
    · exact x.ge.2.2.2 l hl
    · by_cases he : l = σ.n
      · rw [he]; exact hli
      · refine x.ge.2.2.2 l ?_
        simp only [List.mem_append, List.mem_singleton, he, or_false] at hl ⊢
        exact hl
  · exact Nat.le_trans (addM_length _ _ _ _) (Nat.succ_le_succ x.z.1)
theorem IX.stepm (x : IX σ li ld t o1 om ow m1 mm mw nb k) (wf : WF σ) {ks c} (K : Keeps (fun y => y = om ∨ y ∈ locs mm) σ σ') (e : σ'.obj om = some (.dT (kvM (addM mm ks σ.n c)))) (h : holds σ' (addM mm ks σ.n c)) (hli : nb ≤ σ.n) :
    IX σ' li ld t o1 om ow m1 (addM mm ks σ.n c) mw nb (k + 1) := by
  have ndp := List.nodup_append.mp x.nd
  have nda := List.nodup_append.mp ndp.1
  have hl1 : ∀ l ∈ locs mm, ∃ xs, σ.obj l = some (.list xs) := fun l hl => by obtain ⟨y, hy, rfl⟩ := List.mem_map.mp hl; exact ⟨_, x.hm y hy⟩
  have off : ∀ y o, σ.obj y = some o → (∀ xs, o ≠ .list xs) → y ≠ om → ¬ (y = om ∨ y ∈ locs mm) := fun y o hy ho hne hor => by
    rcases hor with h | h
    · exact hne h
    · obtain ⟨xs, hx⟩ := hl1 y h
      rw [hy] at hx; cases hx; exact ho _ rfl
  refine ⟨K.at wf x.at_ (off _ _ x.at_ (fun zz1 h => nomatch h) (obj_ne x.at_ x.em (by simp))), K.at wf x.e1 (off _ _ x.e1 (fun zz1 h => nomatch h) x.ne), e, K.at wf x.ew (off _ _ x.ew (fun zz1 h => nomatch h) (obj_ne x.ew x.em (by simp))),
    fun y hy => K.at wf (x.h1 y hy) fun hor => ?_, h, fun y hy => K.at wf (x.hw y hy) fun hor => ?_, ?_, x.ne, ⟨x.ge.1, x.ge.2.1, x.ge.2.2.1, ?_⟩, ⟨Nat.le_succ_of_le x.z.1, ?_, Nat.le_succ_of_le x.z.2.2⟩, fun y hy => Nat.le_succ_of_le (x.z1 y hy), addM_small _ _ _ _ _ x.zm, fun y hy => Nat.le_succ_of_le (x.zw y hy)⟩
  · rcases hor with h | h
    · exact obj_ne (x.h1 y hy) x.em (by simp) h
    · exact nda.2.2 _ (List.mem_map.mpr ⟨y, hy, rfl⟩) _ h rfl
  · rcases hor with h | h
    · exact obj_ne (x.hw y hy) x.em (by simp) h
    · exact ndp.2.2 _ (List.mem_append.mpr (.inr h)) _ (List.mem_map.mpr ⟨y, hy, rfl⟩) rfl
  · rcases locs_add mm ks σ.n c with h | h <;> rw [h]
    · exact x.nd
    · exact (nodup_fresh x.nd (x.lt wf)).2.1
  · intro l hl
    rcases locs_add mm ks σ.n c with h | h <;> rw [h] at hl
    · exact x.ge.2.2.2 l hl
    · by_cases he : l = σ.n
      · rw [he]; exact hli
      · refine x.ge.2.2.2 l ?_
        simp only [List.mem_append, List.mem_singleton, he, or_false] at hl ⊢
        exact hl
  · exact Nat.le_trans (addM_length _ _ _ _) (Nat.succ_le_succ x.z.2.1)
theorem IX.stepw (x : IX σ li ld t o1 om ow m1 mm mw nb k) (wf : WF σ) {ks c} (K : Keeps (fun y => y = ow ∨ y ∈ locs mw) σ σ') (e : σ'.obj ow = some (.dI (kvM (addM mw ks σ.n c)))) (h : holds σ' (addM mw ks σ.n c)) (hli : nb ≤ σ.n) :
    IX σ' li ld t o1 om ow m1 mm (addM mw ks σ.n c) nb (k + 1) := by
  have ndp := List.nodup_append.mp x.nd
  have hl1 : ∀ l ∈ locs mw, ∃ xs, σ.obj l = some (.list xs) := fun l hl => by obtain ⟨y, hy, rfl⟩ := List.mem_map.mp hl; exact ⟨_, x.hw y hy⟩
  have off : ∀ y o, σ.obj y = some o → (∀ xs, o ≠ .list xs) → y ≠ ow → ¬ (y = ow ∨ y ∈ locs mw) := fun y o hy ho hne hor => by
    rcases hor with h | h
    · exact hne h
    · obtain ⟨xs, hx⟩ := hl1 y h
      rw [hy] at hx; cases hx; exact ho _ rfl
  refine ⟨K.at wf x.at_ (off _ _ x.at_ (fun zz1 h => nomatch h) (obj_ne x.at_ x.ew (by simp))), K.at wf x.e1 (off _ _ x.e1 (fun zz1 h => nomatch h) (obj_ne x.e1 x.ew (by simp))), K.at wf x.em (off _ _ x.em (fun zz1 h => nomatch h) (obj_ne x.em x.ew (by simp))), e,
    fun y hy => K.at wf (x.h1 y hy) fun hor => ?_, fun y hy => K.at wf (x.hm y hy) fun hor => ?_, h, ?_, x.ne, ⟨x.ge.1, x.ge.2.1, x.ge.2.2.1, ?_⟩, ⟨Nat.le_succ_of_le x.z.1, Nat.le_succ_of_le x.z.2.1, ?_⟩, fun y hy => Nat.le_succ_of_le (x.z1 y hy), fun y hy => Nat.le_succ_of_le (x.zm y hy), addM_small _ _ _ _ _ x.zw⟩
  · rcases hor with h | h
    · exact obj_ne (x.h1 y hy) x.ew (by simp) h
    · exact ndp.2.2 _ (List.mem_append.mpr (.inl (List.mem_map.mpr ⟨y, hy, rfl⟩))) _ h rfl
  · rcases hor with h | h
    · exact obj_ne (x.hm y hy) x.ew (by simp) h
    · exact ndp.2.2 _ (List.mem_append.mpr (.inr (List.mem_map.mpr ⟨y, hy, rfl⟩))) _ h rfl
  · rcases locs_add mw ks σ.n c with h | h <;> rw [h]
    · exact x.nd
    · exact (nodup_fresh x.nd (x.lt wf)).2.2
  · intro l hl
    rcases locs_add mw ks σ.n c with h | h <;> rw [h] at hl
    · exact x.ge.2.2.2 l hl
    · by_cases he : l = σ.n
      · rw [he]; exact hli
      · refine x.ge.2.2.2 l ?_
        simp only [List.mem_append, List.mem_singleton, he, or_false] at hl ⊢
        exact hl
  · exact Nat.le_trans (addM_length _ _ _ _) (Nat.succ_le_succ x.z.2.2)
end
end Mine
end

noncomputable section
open PySem PySem.W PyProof.Rows PySem.Calls PySem.Spec
set_option Elab.async false
set_option maxRecDepth 100000
set_option maxHeartbeats 0
set_option linter.all false
namespace Mine

noncomputable def dbLt (D : DL) (T : Told) (nb : Nat) : Prop := D.ld < nb ∧ D.m < nb ∧ D.lm < nb ∧ D.a < nb ∧ D.b < nb ∧ ∀ t ∈ T, t.2.1 < nb
theorem DB.above {σ σ' D T rows nb} (x : DB σ D T rows) (wf : WF σ) (h : dbLt D T nb) (K : Keeps (fun y => nb ≤ y) σ σ') : DB σ' D T rows := by
  refine x.keeps wf K fun y hy => Nat.not_le.mpr ?_
  obtain ⟨h1, h2, h3, h4, h5, h6⟩ := h
  rcases hy with rfl | rfl | rfl | rfl | rfl | ⟨t, ht, rfl⟩
  · exact h1
  · exact h2
  · exact h3
  · exact h4
  · exact h5
  · exact h6 t ht
theorem DB.lt {σ D T rows} (x : DB σ D T rows) (wf : WF σ) : dbLt D T σ.n :=
  ⟨wf _ _ x.dr.at_, wf _ _ x.dr.mp, wf _ _ x.dr.rm.at_, wf _ _ x.dr.rm.ss, wf _ _ x.dr.rm.vs, fun t ht => wf _ _ (x.at_ t ht)⟩

/-- what a put may change -/
noncomputable def WI (o1 om ow : Nat) (m1 mm : MM (List Int)) (mw : MM Int) : Nat → Prop := fun y => y = o1 ∨ y = om ∨ y = ow ∨ y ∈ locs m1 ++ locs mm ++ locs mw
theorem IX.wi {σ li ld t o1 om ow m1 mm mw nb k} (x : IX σ li ld t o1 om ow m1 mm mw nb k) : ∀ y, WI o1 om ow m1 mm mw y → nb ≤ y := fun y h => by
  rcases h with rfl | rfl | rfl | h
  · exact x.ge.1
  · exact x.ge.2.1
  · exact x.ge.2.2.1
  · exact x.ge.2.2.2 _ h

noncomputable def gFIPut : Fs := fun vs σ P => ∃ li D T rows t o1 om ow m1 mm mw nb k c, vs = [.inst 199 li, .int c] ∧ IX σ li D.ld t o1 om ow m1 mm mw nb k ∧ DB σ D T rows ∧ dbLt D T nb ∧ 0 ≤ c ∧ k ≤ 800 ∧ nb ≤ σ.n ∧
  ∀ σ' m1' mm' mw', Keeps (WI o1 om ow m1 mm mw) σ σ' → IX σ' li D.ld t o1 om ow m1' mm' mw' nb (k + 2) →
    (∀ g, getM mm' g = getM mm g ++ if foldT T (stsOf true t) c = g ∧ g.length ≠ 1 then [c] else []) → (∀ g, getM mw' g = getM mw g ++ if foldT T (stsOf true t) c = [g] ∧ g ≠ c then [c] else []) → P .none σ'

noncomputable def fiHalf (P : AV → St → Prop) (ρ : Rho) (σ : St) : Prop :=
  ∃ v, ρ 1 = some v ∧ ∃ v_1, ρ 0 = some v_1 ∧ gAttr 199 "data" v_1 σ fun v_2 σ => ∃ v_3, ρ 0 = some v_3 ∧ gAttr 199 "full" v_3 σ fun v_4 σ => gFoldOf [v, v_2, v_4] σ fun v σ => Bx.cmp gNe' (Ex.ops gLen [Ex.var 2]) (Ex.const (AV.int 1)) (upd ρ 2 (some v)) σ fun t σ =>
    (t = true → ∃ v_5, upd ρ 2 (some v) 0 = some v_5 ∧ gAttr 199 "to_many" v_5 σ fun v_6 σ => isDictT v_6 σ ∧ ∃ v_7, upd ρ 2 (some v) 2 = some v_7 ∧ gSetdT [v_6, v_7, AV.ref σ.n] (σ.push (AO.list [])) fun v_8 σ => isList v_8 σ ∧ ∃ v_9, upd ρ 2 (some v) 1 = some v_9 ∧ gAppend [v_8, v_9] σ fun v σ => v = AV.none ∧ P Fl.next.val σ) ∧
    (t = false → Bx.cmp gNe' (Ex.var 2) (Ex.ops Ex.tup [Ex.var 1]) (upd ρ 2 (some v)) σ fun t σ =>
      (t = true → ∃ v_5, upd ρ 2 (some v) 0 = some v_5 ∧ gAttr 199 "to_whole" v_5 σ fun v_6 σ => isDictI v_6 σ ∧ ∃ v_7, upd ρ 2 (some v) 2 = some v_7 ∧ gItem v_7 (AV.int 0) σ fun v_8 σ => gSetdI [v_6, v_8, AV.ref σ.n] (σ.push (AO.list [])) fun v_9 σ => isList v_9 σ ∧ ∃ v_10, upd ρ 2 (some v) 1 = some v_10 ∧ gAppend [v_9, v_10] σ fun v σ => v = AV.none ∧ P Fl.next.val σ) ∧
      (t = false → Sx.nop (upd ρ 2 (some v)) σ fun fl x σ => P fl.val σ))

theorem fiHalf_of {σ : St} {P : AV → St → Prop} {ρ : Rho} (wf : WF σ) {li : Nat} {D : DL} {T : Told} {rows} {t : Bool} {o1 om ow : Nat} {m1 mm : MM (List Int)} {mw : MM Int} {nb k : Nat} {c : Int} (X : IX σ li D.ld t o1 om ow m1 mm mw nb k) (B : DB σ D T rows) (hc : 0 ≤ c) (hk : k ≤ 801) (hnb : nb ≤ σ.n)
    (r0 : ρ 0 = some (.inst 199 li)) (r1 : ρ 1 = some (.int c))
    (q : ∀ σ' mm' mw', Keeps (WI o1 om ow m1 mm mw) σ σ' → IX σ' li D.ld t o1 om ow m1 mm' mw' nb (k + 1) → (∀ g, getM mm' g = getM mm g ++ if foldT T (stsOf true t) c = g ∧ g.length ≠ 1 then [c] else []) →
      (∀ g, getM mw' g = getM mw g ++ if foldT T (stsOf true t) c = [g] ∧ g ≠ c then [c] else []) → P .none σ') : fiHalf P ρ σ := by
  unfold fiHalf
  simp only [Bx.cmp, Ex.const, Ex.ops, Ex.evs, Ex.var, Ex.tup]
  have nd := List.nodup_append.mp X.nd
  have nd2 := List.nodup_append.mp nd.1
  refine ⟨_, r1, _, r0, li, _, _, rfl, X.at_, rfl, _, r0, li, _, _, rfl, X.at_, rfl, D, T, rows, c, _, rfl, B, hc, ?_⟩
  have hl3 := foldT_len B (stsOf true t) c
  generalize hg : foldT T (stsOf true t) c = goal at hl3 q ⊢
  refine ⟨_, rfl, _, _, rfl, rfl, by simp; (first | lia | omega), ?_⟩
  refine gNe_ints ?_
  refine ⟨_, rfl, fun ht => ?_, fun hf => ?_⟩
  · have h1 : goal.length ≠ 1 := by
      intro h; simp [h] at ht
    refine ⟨_, r0, li, _, _, rfl, X.at_, rfl, ⟨_, _, rfl, X.em⟩, _, rfl, ?_⟩
    refine stepT wf X.em X.hm nd2.2.1 goal c (by have := X.z.2.1; (first | lia | omega)) (fun e he => by have := X.zm e he; (first | lia | omega)) r1 ?_
    intro σ' K e h
    have X' := X.stepm wf K e h hnb
    refine ⟨rfl, q σ' _ mw (K.mono fun y zz1 hy => ?_) X' (fun g => ?_) (fun g => ?_)⟩
    · rcases hy with rfl | hy
      · exact .inr (.inl rfl)
      · exact .inr (.inr (.inr (List.mem_append.mpr (.inl (List.mem_append.mpr (.inr hy))))))
    · rw [getM_add]
      by_cases he : goal = g
      · subst he; simp [h1]
      · simp [he]
    · have : ¬ (goal = [g] ∧ g ≠ c) := fun hh => h1 (by rw [hh.1]; rfl)
      simp [this]
  · have h1 : goal.length = 1 := by
      by_cases h : (goal.length : Int) = 1
      · (first | lia | omega)
      · have : goal.length ≠ 1 := by (first | lia | omega)
        simp [h] at hf
    obtain ⟨g0, rfl⟩ := List.length_eq_one_iff.mp h1
    refine ⟨_, rfl, _, r1, ?_⟩
    refine gNe_tints (a := [g0]) (b := [c]) ?_
    refine ⟨_, rfl, fun ht => ?_, fun hf2 => ?_⟩
    · have hgc : g0 ≠ c := by
        intro h; simp [h] at ht
      refine ⟨_, r0, li, _, _, rfl, X.at_, rfl, ⟨_, _, rfl, X.ew⟩, _, rfl, by decide, by decide, _, rfl, ?_⟩
      refine stepI wf X.ew X.hw nd.2.1 g0 c (by have := X.z.2.2; (first | lia | omega)) (fun e he => by have := X.zw e he; (first | lia | omega)) r1 ?_
      intro σ' K e h
      have X' := X.stepw wf K e h hnb
      refine ⟨rfl, q σ' mm _ (K.mono fun y zz1 hy => ?_) X' (fun g => ?_) (fun g => ?_)⟩
      · rcases hy with rfl | hy
        · exact .inr (.inr (.inl rfl))
        · exact .inr (.inr (.inr (List.mem_append.mpr (.inr hy))))
      · have : ¬ ([g0] = g ∧ g.length ≠ 1) := fun hh => hh.2 (by rw [← hh.1]; rfl)
        simp [this]
      · rw [getM_add]
        by_cases he : g0 = g
        · subst he; simp [hgc]
        · simp [he]
    · have hgc : g0 = c := by
        by_cases h : g0 = c
        · exact h
        · simp [h] at hf2
      refine q σ mm mw (Keeps.refl wf) ⟨X.at_, X.e1, X.em, X.ew, X.h1, X.hm, X.hw, X.nd, X.ne, X.ge, ⟨Nat.le_succ_of_le X.z.1, Nat.le_succ_of_le X.z.2.1, Nat.le_succ_of_le X.z.2.2⟩, fun y hy => Nat.le_succ_of_le (X.z1 y hy), fun y hy => Nat.le_succ_of_le (X.zm y hy), fun y hy => Nat.le_succ_of_le (X.zw y hy)⟩ (fun g => ?_) (fun g => ?_)
      · have : ¬ ([g0] = g ∧ g.length ≠ 1) := fun hh => hh.2 (by rw [← hh.1]; rfl)
        simp [this]
      · have : ¬ ([g0] = [g] ∧ g ≠ c) := fun hh => hh.2 (by have := hh.1; simp at this; rw [← this, hgc])
        rw [if_neg this, List.append_nil]

theorem fiput_code {C : Ctx} {p : Params} (hC : C.K = hd.heap_39 p) : CodeN C 5 (.ref 154) gFIPut := by
  refine forC (Q := fun C => CodeN C 5 (.ref 154) gFIPut) ?_ hC
  clear hC
  intro prog w h0 p pp loose mg mb KX T
  have hC : (Ctx.mk prog w h0 (hd.heap_39 p) pp loose mg mb KX T).K = hd.heap_39 p := rfl
  have h_fold_of := foldof_code hC
  clear hC
  refine CodeN.weakenW (codeDef (defOk_of (names := ["self", "code"]) (vars := [("self", 0, false), ("code", 1, false), ("goal", 2, false)]) rfl rfl rfl rfl rfl rfl rfl (bind2 (fun zz1 zz2 => rfl)))
    (simCons (simAssign (simCallFn rfl rfl rfl (.cons (simVar m1) (.cons (simAttr (simVar m0) cls_FoldIndex rfl) (.cons (simAttr (simVar m0) cls_FoldIndex rfl) .nil (fun zz1 => rfl)) (fun zz1 => rfl)) (fun zz1 => rfl)) h_fold_of.simN) m2)
    (simCons (simIf (simB_cmp (simVar m2) (simTup (.cons (simVar m1) .nil (fun zz1 => rfl))) sim_ne) (simOne (simExpr (simAppend (simSetdT (simAttr (simVar m0) cls_FoldIndex rfl) (.cons (simVar m2) (.cons (simList .nil) .nil (fun zz1 => rfl)) (fun zz1 => rfl))) (.cons (simVar m1) .nil (fun zz1 => rfl))))) simNil)
    (simCons (simAssign (simCallFn rfl rfl rfl (.cons (simVar m1) (.cons (simAttr (simVar m0) cls_FoldIndex rfl) (.cons (simAttr (simVar m0) cls_FoldIndex rfl) .nil (fun zz1 => rfl)) (fun zz1 => rfl)) (fun zz1 => rfl)) h_fold_of.simN) m2)
    (simOne (simIf (simB_cmp (simCallB rfl rfl rfl (by decide) (.cons (simVar m2) .nil (fun zz1 => rfl)) simN_len) simConst_int sim_ne) (simOne (simExpr (simAppend (simSetdT (simAttr (simVar m0) cls_FoldIndex rfl) (.cons (simVar m2) (.cons (simList .nil) .nil (fun zz1 => rfl)) (fun zz1 => rfl))) (.cons (simVar m1) .nil (fun zz1 => rfl))))) (simOne (simIf (simB_cmp (simVar m2) (simTup (.cons (simVar m1) .nil (fun zz1 => rfl))) sim_ne) (simOne (simExpr (simAppend (simSetdI (simAttr (simVar m0) cls_FoldIndex rfl) (.cons (simSub (simVar m2) simConst_int) (.cons (simList .nil) .nil (fun zz1 => rfl)) (fun zz1 => rfl))) (.cons (simVar m1) .nil (fun zz1 => rfl))))) simNil)))))))) ?_
  rintro vs σ P wf ⟨li, D, T, rows, t, o1, om, ow, m1, mm, mw, nb, k, c, rfl, X, B, hlt, hc, hk, hnb, q⟩
  refine ⟨rfl, ?_⟩
  refine ⟨_, rfl, _, rfl, li, _, _, rfl, X.at_, rfl, _, rfl, li, _, _, rfl, X.at_, rfl, D, T, rows, c, _, rfl, B, hc, ?_⟩
  have nd := List.nodup_append.mp X.nd
  have nd2 := List.nodup_append.mp nd.1
  refine ⟨_, rfl, _, rfl, ?_⟩
  refine gNe_tints (b := [c]) ?_
  refine ⟨_, rfl, fun ht => ?_, fun hf => ?_⟩
  · refine ⟨_, rfl, li, _, _, rfl, X.at_, rfl, ⟨_, _, rfl, X.e1⟩, _, rfl, ?_⟩
    refine stepT wf X.e1 X.h1 nd2.1 _ c (by have := X.z.1; (first | lia | omega)) (fun e he => by have := X.z1 e he; (first | lia | omega)) rfl ?_
    intro σ1 K1 e1 h1
    have X1 := X.step1 wf K1 e1 h1 hnb
    have K1' : Keeps (WI o1 om ow m1 mm mw) σ σ1 := K1.mono fun y zz1 hy => by
      rcases hy with rfl | hy
      · exact .inl rfl
      · exact .inr (.inr (.inr (List.mem_append.mpr (.inl (List.mem_append.mpr (.inl hy))))))
    have WI' : ∀ y, y < σ.n → WI o1 om ow (addM m1 (foldT T (stsOf false t) c) σ.n c) mm mw y → WI o1 om ow m1 mm mw y := fun y hy h => by
      rcases h with h | h | h | h
      · exact .inl h
      · exact .inr (.inl h)
      · exact .inr (.inr (.inl h))
      · refine .inr (.inr (.inr ?_))
        rcases locs_add m1 (foldT T (stsOf false t) c) σ.n c with e | e <;> rw [e] at h
        · exact h
        · have hne : y ≠ σ.n := Nat.ne_of_lt hy
          simp only [List.mem_append, List.mem_singleton, hne, or_false] at h ⊢
          exact h
    refine ⟨rfl, ?_⟩
    exact fiHalf_of K1.wf X1 (B.above wf hlt (K1'.mono fun y zz1 h => X.wi y h)) hc (by (first | lia | omega)) (Nat.le_trans hnb K1.le) rfl rfl fun σ' mm' mw' K2 X2 a b => q σ' _ mm' mw' ⟨K2.wf, Nat.le_trans K1.le K2.le, fun y hy hw => (K2.same y (Nat.lt_of_lt_of_le hy K1.le) fun h => hw (WI' y hy h)).trans (K1'.same y hy hw)⟩ X2 a b
  · refine fiHalf_of (ρ := upd (callRho [AV.inst 199 li, AV.int c]) 2 _) wf X B hc (by (first | lia | omega)) hnb rfl rfl fun σ' mm' mw' K2 X2 a b => q σ' m1 mm' mw' K2 ?_ a b
    exact ⟨X2.at_, X2.e1, X2.em, X2.ew, X2.h1, X2.hm, X2.hw, X2.nd, X2.ne, X2.ge, ⟨Nat.le_succ_of_le X2.z.1, Nat.le_succ_of_le X2.z.2.1, Nat.le_succ_of_le X2.z.2.2⟩, fun y hy => Nat.le_succ_of_le (X2.z1 y hy), fun y hy => Nat.le_succ_of_le (X2.zm y hy), fun y hy => Nat.le_succ_of_le (X2.zw y hy)⟩
end Mine
end

noncomputable section
open PySem PySem.W PyProof.Rows PySem.Calls PySem.Spec
set_option Elab.async false
set_option maxRecDepth 100000
set_option maxHeartbeats 0
set_option linter.all false
namespace Mine

noncomputable def isSet : AV → Bool
  | .none => false
  | _ => true
noncomputable def liveR (rows : List (Int × AV)) : List (Int × AV) := rows.filter fun x => isSet x.2
/-- each row that is set is one code long -/
noncomputable def oneLong : List (Int × AV) → Prop
  | [] => True
  | [(s, v)] => v = .none
  | (s, v) :: (s2, v2) :: r => (isSet v = true → s2 = s + 1) ∧ oneLong ((s2, v2) :: r)

theorem rr_live : ∀ rows, oneLong rows → (rr rows).filter keep3 = (liveR rows).map fun x => .tup [.int x.1, .int x.1, x.2]
  | [], _ => rfl
  | [(s, v)], h => by
    have : v = .none := h
    subst this; rfl
  | (s, v) :: (s2, v2) :: r, h => by
    have ih := rr_live ((s2, v2) :: r) h.2
    have e1 : rr ((s, v) :: (s2, v2) :: r) = .tup [.int s, .int (s2 - 1), v] :: rr ((s2, v2) :: r) := rfl
    rw [e1]
    cases hv : isSet v with
    | false =>
      have h1 : keep3 (.tup [.int s, .int (s2 - 1), v]) = false := by cases v <;> first | rfl | cases hv
      have h2 : liveR ((s, v) :: (s2, v2) :: r) = liveR ((s2, v2) :: r) := by simp [liveR, hv]
      rw [List.filter_cons_of_neg (by rw [h1]; simp), h2, ih]
    | true =>
      have h1 : keep3 (.tup [.int s, .int (s2 - 1), v]) = true := by cases v <;> first | rfl | cases hv
      have h2 : liveR ((s, v) :: (s2, v2) :: r) = (s, v) :: liveR ((s2, v2) :: r) := by simp [liveR, hv]
      rw [List.filter_cons_of_pos h1, h2, ih, List.map_cons]
      have := h.1 hv
      subst this
      have e : s + 1 - 1 = s := by (first | lia | omega)
      rw [e]

noncomputable def wantM (T : Told) (t : Bool) (cs : List Int) (g : List Int) : List Int := cs.filter fun c => decide (foldT T (stsOf true t) c = g ∧ g.length ≠ 1)
noncomputable def wantW (T : Told) (t : Bool) (cs : List Int) (g : Int) : List Int := cs.filter fun c => decide (foldT T (stsOf true t) c = [g] ∧ g ≠ c)

noncomputable def gFIInit : Fs := fun vs σ P => ∃ li D T rows t, vs = [.inst 199 li, .inst 248 D.ld, .bool t] ∧ σ.obj li = some (.dS []) ∧ DB σ D T rows ∧ dbLt D T li ∧ oneLong rows ∧ (∀ x ∈ rows, x.2 = .none ∨ ∃ y kk, x.2 = .ref y ∧ y < li ∧ σ.obj y = some (.dS kk)) ∧ (∀ x ∈ rows, 0 ≤ x.1 ∧ x.1 < 10000000) ∧ rows.length ≤ 200 ∧
  ∀ σ' o1 om ow m1 mm mw k, Keeps (fun y => li ≤ y) σ σ' → IX σ' li D.ld t o1 om ow m1 mm mw li k → (∀ g, getM mm g = wantM T t ((liveR rows).map (·.1)) g) → (∀ g, getM mw g = wantW T t ((liveR rows).map (·.1)) g) → k = 2 * (liveR rows).length → P .none σ'

theorem fiinit_code {C : Ctx} {p : Params} (hC : C.K = hd.heap_39 p) : CodeN C 6 (.ref 147) gFIInit := by
  refine forC (Q := fun C => CodeN C 6 (.ref 147) gFIInit) ?_ hC
  clear hC
  intro prog w h0 p pp loose mg mb KX T
  have hC : (Ctx.mk prog w h0 (hd.heap_39 p) pp loose mg mb KX T).K = hd.heap_39 p := rfl
  have h_fold_statuses := (statuses_code hC).mono (show 1 ≤ 5 by decide)
  have h_FoldIndex_put := fiput_code hC
  have h_Data_map_of := (mapof_code hC).mono (show 3 ≤ 5 by decide)
  have h_RangeMap_ranges := (ranges_code hC).mono (show 2 ≤ 5 by decide)
  clear hC
  refine CodeN.weakenW (codeDef (defOk_of (names := ["self", "data", "is_turkic"]) (vars := [("self", 0, false), ("data", 1, false), ("is_turkic", 2, false), ("first", 3, false), ("last", 4, false), ("known", 5, false), ("code", 6, false)]) rfl rfl rfl rfl rfl rfl rfl (bind3d rfl rfl rfl (fun zz1 zz2 zz3 => rfl) (fun zz1 zz2 zz3 => rfl)))
    (simCons (simAssignT (simVar m1) (simT_attr (simVar m0) cls_FoldIndex rfl))
    (simCons (simAssignT (simCallFn rfl rfl rfl (.cons simConst_bool (.cons (simVar m2) .nil (fun zz1 => rfl)) (fun zz1 => rfl)) h_fold_statuses.simN) (simT_attr (simVar m0) cls_FoldIndex rfl))
    (simCons (simAssignT (simCallFn rfl rfl rfl (.cons simConst_bool (.cons (simVar m2) .nil (fun zz1 => rfl)) (fun zz1 => rfl)) h_fold_statuses.simN) (simT_attr (simVar m0) cls_FoldIndex rfl))
    (simCons (simAssignT (simDict0 2) (simT_attr (simVar m0) cls_FoldIndex rfl))
    (simCons (simAssignT (simDict0 2) (simT_attr (simVar m0) cls_FoldIndex rfl))
    (simCons (simAssignT (simDict0 1) (simT_attr (simVar m0) cls_FoldIndex rfl))
    (simOne (simFor (simI (simMeth (simMeth (simVar m1) (.cons simConst_str .nil (fun zz1 => rfl)) cls_Data rfl rfl rfl h_Data_map_of.simN) .nil cls_RangeMap rfl rfl rfl h_RangeMap_ranges.simN) srcOk_seq) (simT_tup (.cons m3 (.cons m4 (.cons m5 .nil (fun zz1 => rfl)) (fun zz1 => rfl)) (fun zz1 => rfl))) (simOne (simIf (simB_cmp (simVar m5) simConst_none sim_isNot) (simOne (simFor (simI (simCallT rfl rfl rfl (by decide) (.cons (simVar m3) (.cons (simBin (simVar m4) simConst_int sim_add) .nil (fun zz1 => rfl)) (fun zz1 => rfl)) simN_range2) srcOk_rng) (simT_name m6) (simOne (simExpr (simMeth (simVar m0) (.cons (simVar m6) .nil (fun zz1 => rfl)) cls_FoldIndex rfl rfl rfl h_FoldIndex_put.simN))))) simNil))))))))))) ?_
  rintro vs σ P wf ⟨li, D, T, rows, t, rfl, e, B, hlt, hone, hpl, hpos, hn, q⟩
  have hli := wf _ _ e
  refine ⟨rfl, ?_⟩
  -- data, simple, full
  refine ⟨_, rfl, _, rfl, li, _, rfl, e, Nat.le_of_ble_eq_true rfl, ?_⟩
  have K1 : Keeps (fun y => li ≤ y) σ (σ.set li (.dS (put [] "data" (.inst 248 D.ld)))) := (Keeps.refl wf).setI hli fun zz1 => Nat.le_refl _
  have f1 : (σ.set li (.dS (put [] "data" (.inst 248 D.ld)))).obj li = some (.dS [("data", .inst 248 D.ld)]) := set_self
  have n1 : (σ.set li (.dS (put [] "data" (.inst 248 D.ld)))).n = σ.n := rfl
  generalize σ.set li (.dS (put [] "data" (.inst 248 D.ld))) = σ1 at K1 f1 n1 ⊢
  refine ⟨_, rfl, false, t, rfl, _, rfl, li, _, rfl, f1, Nat.le_of_ble_eq_true rfl, ?_⟩
  have K2 : Keeps (fun y => li ≤ y) σ (σ1.set li (.dS (put [("data", .inst 248 D.ld)] "simple" (stsA (stsOf false t))))) := K1.setI (by (first | lia | omega)) fun zz1 => Nat.le_refl _
  have f2 : (σ1.set li (.dS (put [("data", .inst 248 D.ld)] "simple" (stsA (stsOf false t))))).obj li = some (.dS [("data", .inst 248 D.ld), ("simple", stsA (stsOf false t))]) := set_self
  have n2 : (σ1.set li (.dS (put [("data", .inst 248 D.ld)] "simple" (stsA (stsOf false t))))).n = σ.n := n1
  generalize σ1.set li (.dS (put [("data", .inst 248 D.ld)] "simple" (stsA (stsOf false t)))) = σ2 at K2 f2 n2 ⊢
  clear K1 f1
  refine ⟨_, rfl, true, t, rfl, _, rfl, li, _, rfl, f2, Nat.le_of_ble_eq_true rfl, ?_⟩
  have K3 : Keeps (fun y => li ≤ y) σ (σ2.set li (.dS (put [("data", .inst 248 D.ld), ("simple", stsA (stsOf false t))] "full" (stsA (stsOf true t))))) := K2.setI (by (first | lia | omega)) fun zz1 => Nat.le_refl _
  have f3 : (σ2.set li (.dS (put [("data", .inst 248 D.ld), ("simple", stsA (stsOf false t))] "full" (stsA (stsOf true t))))).obj li = some (.dS [("data", .inst 248 D.ld), ("simple", stsA (stsOf false t)), ("full", stsA (stsOf true t))]) := set_self
  have n3 : (σ2.set li (.dS (put [("data", .inst 248 D.ld), ("simple", stsA (stsOf false t))] "full" (stsA (stsOf true t))))).n = σ.n := n2
  generalize σ2.set li (.dS (put [("data", .inst 248 D.ld), ("simple", stsA (stsOf false t))] "full" (stsA (stsOf true t)))) = σ3 at K3 f3 n3 ⊢
  clear K2 f2
  -- the three dicts
  refine ⟨_, rfl, li, _, rfl, push_old K3.wf f3, Nat.le_of_ble_eq_true rfl, ?_⟩
  have K4 : Keeps (fun y => li ≤ y) σ ((σ3.push (emptyD 2)).set li (.dS (put [("data", .inst 248 D.ld), ("simple", stsA (stsOf false t)), ("full", stsA (stsOf true t))] "to_one" (.ref σ3.n)))) := K3.pushI.setI (by show li < σ3.n + 1; (first | lia | omega)) fun zz1 => Nat.le_refl _
  have f4 : ((σ3.push (emptyD 2)).set li (.dS (put [("data", .inst 248 D.ld), ("simple", stsA (stsOf false t)), ("full", stsA (stsOf true t))] "to_one" (.ref σ3.n)))).obj li = some (.dS [("data", .inst 248 D.ld), ("simple", stsA (stsOf false t)), ("full", stsA (stsOf true t)), ("to_one", .ref σ3.n)]) := set_self
  have g4 := set_other (o := .dS (put [("data", .inst 248 D.ld), ("simple", stsA (stsOf false t)), ("full", stsA (stsOf true t))] "to_one" (.ref σ3.n))) (push_new (σ := σ3) (o := emptyD 2)) (show σ3.n ≠ li by (first | lia | omega))
  have n4 : ((σ3.push (emptyD 2)).set li (.dS (put [("data", .inst 248 D.ld), ("simple", stsA (stsOf false t)), ("full", stsA (stsOf true t))] "to_one" (.ref σ3.n)))).n = σ.n + 1 := by show σ3.n + 1 = _; (first | lia | omega)
  generalize (σ3.push (emptyD 2)).set li (.dS (put [("data", .inst 248 D.ld), ("simple", stsA (stsOf false t)), ("full", stsA (stsOf true t))] "to_one" (.ref σ3.n))) = σ4 at K4 f4 g4 n4 ⊢
  clear K3 f3
  refine ⟨_, rfl, li, _, rfl, push_old K4.wf f4, Nat.le_of_ble_eq_true rfl, ?_⟩
  have K5 : Keeps (fun y => li ≤ y) σ ((σ4.push (emptyD 2)).set li (.dS (put [("data", .inst 248 D.ld), ("simple", stsA (stsOf false t)), ("full", stsA (stsOf true t)), ("to_one", .ref σ3.n)] "to_many" (.ref σ4.n)))) := K4.pushI.setI (by show li < σ4.n + 1; (first | lia | omega)) fun zz1 => Nat.le_refl _
  have f5 : ((σ4.push (emptyD 2)).set li (.dS (put [("data", .inst 248 D.ld), ("simple", stsA (stsOf false t)), ("full", stsA (stsOf true t)), ("to_one", .ref σ3.n)] "to_many" (.ref σ4.n)))).obj li = some (.dS [("data", .inst 248 D.ld), ("simple", stsA (stsOf false t)), ("full", stsA (stsOf true t)), ("to_one", .ref σ3.n), ("to_many", .ref σ4.n)]) := set_self
  have g5 := set_other (o := .dS (put [("data", .inst 248 D.ld), ("simple", stsA (stsOf false t)), ("full", stsA (stsOf true t)), ("to_one", .ref σ3.n)] "to_many" (.ref σ4.n))) (push_old (o := emptyD 2) K4.wf g4) (show σ3.n ≠ li by (first | lia | omega))
  have g5' := set_other (o := .dS (put [("data", .inst 248 D.ld), ("simple", stsA (stsOf false t)), ("full", stsA (stsOf true t)), ("to_one", .ref σ3.n)] "to_many" (.ref σ4.n))) (push_new (σ := σ4) (o := emptyD 2)) (show σ4.n ≠ li by (first | lia | omega))
  have n5 : ((σ4.push (emptyD 2)).set li (.dS (put [("data", .inst 248 D.ld), ("simple", stsA (stsOf false t)), ("full", stsA (stsOf true t)), ("to_one", .ref σ3.n)] "to_many" (.ref σ4.n)))).n = σ.n + 2 := by show σ4.n + 1 = _; (first | lia | omega)
  generalize (σ4.push (emptyD 2)).set li (.dS (put [("data", .inst 248 D.ld), ("simple", stsA (stsOf false t)), ("full", stsA (stsOf true t)), ("to_one", .ref σ3.n)] "to_many" (.ref σ4.n))) = σ5 at K5 f5 g5 g5' n5 ⊢
  clear K4 f4 g4
  refine ⟨_, rfl, li, _, rfl, push_old K5.wf f5, Nat.le_of_ble_eq_true rfl, ?_⟩
  have K6 : Keeps (fun y => li ≤ y) σ ((σ5.push (emptyD 1)).set li (.dS (put [("data", .inst 248 D.ld), ("simple", stsA (stsOf false t)), ("full", stsA (stsOf true t)), ("to_one", .ref σ3.n), ("to_many", .ref σ4.n)] "to_whole" (.ref σ5.n)))) := K5.pushI.setI (by show li < σ5.n + 1; (first | lia | omega)) fun zz1 => Nat.le_refl _
  have f6 : ((σ5.push (emptyD 1)).set li (.dS (put [("data", .inst 248 D.ld), ("simple", stsA (stsOf false t)), ("full", stsA (stsOf true t)), ("to_one", .ref σ3.n), ("to_many", .ref σ4.n)] "to_whole" (.ref σ5.n)))).obj li = some (.dS [("data", .inst 248 D.ld), ("simple", stsA (stsOf false t)), ("full", stsA (stsOf true t)), ("to_one", .ref σ3.n), ("to_many", .ref σ4.n), ("to_whole", .ref σ5.n)]) := set_self
  have g6 := set_other (o := .dS (put [("data", .inst 248 D.ld), ("simple", stsA (stsOf false t)), ("full", stsA (stsOf true t)), ("to_one", .ref σ3.n), ("to_many", .ref σ4.n)] "to_whole" (.ref σ5.n))) (push_old (o := emptyD 1) K5.wf g5) (show σ3.n ≠ li by (first | lia | omega))
  have g6' := set_other (o := .dS (put [("data", .inst 248 D.ld), ("simple", stsA (stsOf false t)), ("full", stsA (stsOf true t)), ("to_one", .ref σ3.n), ("to_many", .ref σ4.n)] "to_whole" (.ref σ5.n))) (push_old (o := emptyD 1) K5.wf g5') (show σ4.n ≠ li by (first | lia | omega))
  have g6'' := set_other (o := .dS (put [("data", .inst 248 D.ld), ("simple", stsA (stsOf false t)), ("full", stsA (stsOf true t)), ("to_one", .ref σ3.n), ("to_many", .ref σ4.n)] "to_whole" (.ref σ5.n))) (push_new (σ := σ5) (o := emptyD 1)) (show σ5.n ≠ li by (first | lia | omega))
  have n6 : ((σ5.push (emptyD 1)).set li (.dS (put [("data", .inst 248 D.ld), ("simple", stsA (stsOf false t)), ("full", stsA (stsOf true t)), ("to_one", .ref σ3.n), ("to_many", .ref σ4.n)] "to_whole" (.ref σ5.n)))).n = σ.n + 3 := by show σ5.n + 1 = _; (first | lia | omega)
  generalize (σ5.push (emptyD 1)).set li (.dS (put [("data", .inst 248 D.ld), ("simple", stsA (stsOf false t)), ("full", stsA (stsOf true t)), ("to_one", .ref σ3.n), ("to_many", .ref σ4.n)] "to_whole" (.ref σ5.n))) = σ6 at K6 f6 g6 g6' g6'' n6 ⊢
  clear K5 f5 g5 g5'
  have B6 := B.above wf hlt K6
  have X6 : IX σ6 li D.ld t σ3.n σ4.n σ5.n [] [] [] li 0 := ⟨f6, g6, g6', g6'', fun e he => (by cases he), fun e he => (by cases he), fun e he => (by cases he), by simp [locs], by (first | lia | omega), ⟨by (first | lia | omega), by (first | lia | omega), by (first | lia | omega), fun l hl => by simp [locs] at hl⟩, ⟨Nat.le_refl _, Nat.le_refl _, Nat.le_refl _⟩, fun e he => (by cases he), fun e he => (by cases he), fun e he => (by cases he)⟩
  -- the ranges
  refine ⟨_, rfl, ⟨D.ld, _, rfl, B6.dr.at_, rfl⟩, D, rfl, .inl ⟨rows, B6.dr, ?_⟩⟩
  have hpl6 : ∀ x ∈ rows, plainV x.2 σ6 := by
    intro x hx
    rcases hpl x hx with h | ⟨y, kk, h, hy, ey⟩
    · exact .inl h
    · exact .inr ⟨y, kk, h, K6.at wf ey (Nat.not_le.mpr hy)⟩
  refine ⟨⟨D.lm, _, rfl, B6.dr.rm.at_, rfl⟩, D.lm, rows, D.a, D.b, rfl, B6.dr.rm, by (first | lia | omega), hpl6, ?_⟩
  intro σ7 r K7 hr er
  have K7' : Keeps (fun y => li ≤ y) σ σ7 := K6.trans K7.off
  have X7 := X6.keeps (W := NoW) K6.wf K7 fun zz1 zz2 z => z
  have hrn : r < σ7.n := K7.wf _ _ er
  rw [rr_live rows hone] at er
  refine gSeqL (er) ?_
  refine forL_all _ (fun i ρ σ' => Keeps (fun y => li ≤ y) σ σ' ∧ σ7.n ≤ σ'.n ∧ ρ 0 = some (.inst 199 li) ∧ σ'.obj r = some (.list ((liveR rows).map fun x => .tup [.int x.1, .int x.1, x.2])) ∧ ∃ m1 mm mw, IX σ' li D.ld t σ3.n σ4.n σ5.n m1 mm mw li (2 * i) ∧
    (∀ g, getM mm g = wantM T t (((liveR rows).take i).map (·.1)) g) ∧ (∀ g, getM mw g = wantW T t (((liveR rows).take i).map (·.1)) g)) (fun zz1 zz2 zz3 => False) ?_ ?_ (fun zz1 zz2 zz3 h => h.elim) ⟨K7', Nat.le_refl _, rfl, er, [], [], [], X7, fun g => rfl, fun g => rfl⟩
  · rintro i v ρ σ' Q hv ⟨K', hn7, r0, er', m1, mm, mw, X', hm, hw⟩ hQ hR
    rw [List.getElem?_map] at hv
    cases hx : (liveR rows)[i]? with
    | none => rw [hx] at hv; cases hv
    | some x =>
      rw [hx] at hv; cases hv
      have hxm := List.mem_of_getElem? hx
      have hxr : x ∈ rows := (List.mem_filter.mp hxm).1
      have hxs : isSet x.2 = true := (List.mem_filter.mp hxm).2
      have hp := hpos x hxr
      have hil : i < rows.length := Nat.lt_of_lt_of_le (List.getElem?_eq_some_iff.mp hx).1 (List.length_filter_le _ _)
      have hset : (match x.2 with | .none => false | _ => true) = true := by
        revert hxs; cases x.2 <;> intro h <;> first | rfl | cases h
      refine ⟨_, rfl, rfl, _, rfl, rfl, _, rfl, fun zz1 => ?_, fun h => ?_⟩
      · refine ⟨_, rfl, _, rfl, .inl ⟨_, _, rfl, rfl, _, _, rfl, ?_⟩⟩
        have hrng : rngInts x.1 (x.1 + 1) = [.int x.1] := by
          have : (x.1 + 1 - x.1).toNat = 1 := by (first | lia | omega)
          simp [rngInts, this]
        refine ⟨_, _, rfl, by (first | lia | omega), by (first | lia | omega), by (first | lia | omega), by (first | lia | omega), ?_⟩
        rw [hrng]
        have B' := B.above wf hlt K'
        refine ⟨_, r0, ⟨li, _, rfl, X'.at_, rfl⟩, _, rfl, li, D, T, rows, t, σ3.n, σ4.n, σ5.n, m1, mm, mw, li, 2 * i, x.1, rfl, X', B', hlt, hp.1, by (first | lia | omega), by have := K7'.le; (first | lia | omega), ?_⟩
        intro σ8 m1' mm' mw' K8 X8 hm8 hw8
        have hnr : ¬ WI σ3.n σ4.n σ5.n m1 mm mw r := by
          intro h
          rcases h with h | h | h | h
          · exact obj_ne er' X'.e1 (by simp) h
          · exact obj_ne er' X'.em (by simp) h
          · exact obj_ne er' X'.ew (by simp) h
          · have : ∃ xs, σ'.obj r = some (.list (intsA xs)) := by
              rcases List.mem_append.mp h with h | h
              · rcases List.mem_append.mp h with h | h
                · obtain ⟨e, he, rfl⟩ := List.mem_map.mp h; exact ⟨_, X'.h1 e he⟩
                · obtain ⟨e, he, rfl⟩ := List.mem_map.mp h; exact ⟨_, X'.hm e he⟩
              · obtain ⟨e, he, rfl⟩ := List.mem_map.mp h; exact ⟨_, X'.hw e he⟩
            obtain ⟨xs, hxs'⟩ := this
            rw [er'] at hxs'
            have h2 : ((liveR rows).map fun x => AV.tup [.int x.1, .int x.1, x.2]) = intsA xs := by injection hxs' with h; injection h
            have h3 := congrArg (fun l => l[i]?) h2
            simp only [List.getElem?_map, hx, Option.map_some] at h3
            cases h4 : xs[i]? with
            | none => rw [h4] at h3; cases h3
            | some z => rw [h4] at h3; cases h3
        have er8 := K8.at K'.wf er' hnr
        refine ⟨rfl, trivial, ?_⟩
        show Q .next (upd (setMany [3, 4, 5] [AV.int x.1, AV.int x.1, x.2] ρ) 6 (some (.int x.1))) σ8
        refine (hQ (upd (setMany [3, 4, 5] [AV.int x.1, AV.int x.1, x.2] ρ) 6 (some (.int x.1))) σ8 ⟨K'.trans (K8.mono fun y zz1 h => X'.wi y h), Nat.le_trans hn7 K8.le, r0, er8, m1', mm', mw', X8, fun g => ?_, fun g => ?_⟩ er8).1
        · rw [hm8, hm, List.take_add_one, hx]
          simp only [wantM, List.map_append, List.filter_append, Option.toList, List.map_cons, List.map_nil]
          congr 1
          by_cases hh : foldT T (stsOf true t) x.1 = g ∧ g.length ≠ 1
          · rw [if_pos hh, List.filter_cons_of_pos (by simpa using hh)]; rfl
          · rw [if_neg hh, List.filter_cons_of_neg (by simpa using hh)]; rfl
        · rw [hw8, hw, List.take_add_one, hx]
          simp only [wantW, List.map_append, List.filter_append, Option.toList, List.map_cons, List.map_nil]
          congr 1
          by_cases hh : foldT T (stsOf true t) x.1 = [g] ∧ g ≠ x.1
          · rw [if_pos hh, List.filter_cons_of_pos (by simpa using hh)]; rfl
          · rw [if_neg hh, List.filter_cons_of_neg (by simpa using hh)]; rfl
      · have h' : (match x.2 with | .none => false | _ => true) = false := h
        rw [hset] at h'; cases h'
  · rintro ρ σ' ⟨K', hn7, r0, er', m1, mm, mw, X', hm, hw⟩
    rw [List.length_map, List.take_length] at hm hw
    exact q σ' _ _ _ m1 mm mw _ K' X' hm hw (by rw [List.length_map])

noncomputable def gFI : Fs := fun vs σ P => ∃ D T rows t, vs = [.inst 248 D.ld, .bool t] ∧ DB σ D T rows ∧ oneLong rows ∧ (∀ x ∈ rows, x.2 = .none ∨ ∃ y kk, x.2 = .ref y ∧ σ.obj y = some (.dS kk)) ∧ (∀ x ∈ rows, 0 ≤ x.1 ∧ x.1 < 10000000) ∧ rows.length ≤ 200 ∧
  ∀ σ' li o1 om ow m1 mm mw k, Keeps NoW σ σ' → IX σ' li D.ld t o1 om ow m1 mm mw σ.n k → σ.n ≤ li → (∀ g, getM mm g = wantM T t ((liveR rows).map (·.1)) g) → (∀ g, getM mw g = wantW T t ((liveR rows).map (·.1)) g) → k = 2 * (liveR rows).length → P (.inst 199 li) σ'
theorem fi_code {C : Ctx} {p : Params} (hC : C.K = hd.heap_39 p) : CodeN C 7 (.ref 199) gFI := by
  refine forC (Q := fun C => CodeN C 7 (.ref 199) gFI) ?_ hC
  clear hC
  intro prog w h0 p pp loose mg mb KX T
  have hC : (Ctx.mk prog w h0 (hd.heap_39 p) pp loose mg mb KX T).K = hd.heap_39 p := rfl
  have H := fiinit_code hC
  clear hC
  refine CodeN.weakenW (codeCls cls_FoldIndex.makes rfl rfl H) ?_
  rintro vs σ P wf ⟨D, T, rows, t, rfl, B, hone, hpl, hpos, hn, q⟩
  refine ⟨σ.n, D, T, rows, t, rfl, push_new, B.keep0 wf (Keeps.refl wf).pushI, B.lt wf, hone, fun x hx => ?_, hpos, hn, ?_⟩
  · rcases hpl x hx with h | ⟨y, kk, h, e⟩
    · exact .inl h
    · exact .inr ⟨y, kk, h, wf _ _ e, push_old wf e⟩
  intro σ' o1 om ow m1 mm mw k K X hm hw hkk
  have hle := K.le
  simp only [St.push_n] at hle
  refine ⟨rfl, by (first | lia | omega), ?_⟩
  have K' : Keeps NoW σ σ' := ⟨K.wf, by (first | lia | omega), fun y hy zz1 => by
    have := K.same y (Nat.lt_succ_of_lt hy) (Nat.not_le.mpr hy)
    rw [this]
    simp only [St.push, if_neg (Nat.ne_of_lt hy)]⟩
  exact q σ' σ.n o1 om ow m1 mm mw k K' X (Nat.le_refl _) hm hw hkk
end Mine
end

noncomputable section
open PySem PySem.W PyProof.Rows PySem.Calls PySem.Spec
set_option Elab.async false
set_option maxRecDepth 100000
set_option maxHeartbeats 0
set_option linter.all false
namespace Mine

noncomputable def IDX (σ : St) (li : Nat) (T : Told) (t : Bool) (cs : List Int) : Prop :=
  ∃ D rows o1 om ow m1 mm mw nb k, IX σ li D.ld t o1 om ow m1 mm mw nb k ∧ DB σ D T rows ∧ k ≤ 60 ∧ (∀ g, getM mm g = wantM T t cs g) ∧ (∀ g, getM mw g = wantW T t cs g)
theorem IDX.keep0 {σ σ' li T t cs} (x : IDX σ li T t cs) (wf : WF σ) (K : Keeps NoW σ σ') : IDX σ' li T t cs := by
  obtain ⟨D, rows, o1, om, ow, m1, mm, mw, nb, k, X, B, r⟩ := x
  exact ⟨D, rows, o1, om, ow, m1, mm, mw, nb, k, X.keeps wf K fun zz1 zz2 z => z, B.keep0 wf K, r⟩

noncomputable def wholeP (T : Told) (t : Bool) (cs : List Int) (c : Int) : List Int := srt (wantW T t cs c ++ if foldT T (stsOf true t) c = [c] then [c] else [])
noncomputable def unfP (T : Told) (t : Bool) (cs : List Int) (g : List Int) : List Int := srt (wantM T t cs g)

theorem getM_len {κ : Type} [DecidableEq κ] {m : MM κ} {k : Nat} (h : ∀ e ∈ m, e.2.2.length ≤ k) (g : κ) : (getM m g).length ≤ k := by
  unfold getM
  cases hl : locM m g with
  | none => simp
  | some e => exact h _ (locM_mem (y := e.1) (xs := e.2) hl)

theorem got {κ : Type} [DecidableEq κ] {σ : St} {m : MM κ} (hh : holds σ m) (g : κ) (n : Nat) (hn : σ.obj n = some (.list [])) : ∃ y, (look (kvM m) g).getD (.ref n) = .ref y ∧ σ.obj y = some (.list (intsA (getM m g))) := by
  rw [look_kvM]
  unfold getM
  cases hl : locM m g with
  | none => exact ⟨n, rfl, hn⟩
  | some e => exact ⟨e.1, rfl, hh _ (locM_mem (y := e.1) (xs := e.2) hl)⟩

theorem i_getI {l : Nat} {k : Int} {kvs : List (Int × AV)} {dv w : AV} {σ : St} {P : AV → St → Prop} (e : σ.obj l = some (.dI kvs)) (h : (look kvs k).getD dv = w) (q : P w σ) : gGet2I [.ref l, .int k, dv] σ P := by subst h; exact ⟨l, kvs, k, dv, rfl, e, q⟩
theorem i_getT {l : Nat} {k : List Int} {kvs : List (List Int × AV)} {dv w : AV} {σ : St} {P : AV → St → Prop} (e : σ.obj l = some (.dT kvs)) (h : (look kvs k).getD dv = w) (q : P w σ) : gGet2T [.ref l, .tup (intsA k), dv] σ P := by subst h; exact ⟨l, kvs, k, dv, rfl, e, q⟩

noncomputable def gWhole : Fs := fun vs σ P => ∃ li T t cs c, vs = [.inst 199 li, .int c] ∧ IDX σ li T t cs ∧ 0 ≤ c ∧ ∀ σ' r, Keeps NoW σ σ' → σ.n ≤ r → σ'.obj r = some (.list (intsA (wholeP T t cs c))) → P (.ref r) σ'
theorem whole_code {C : Ctx} {p : Params} (hC : C.K = hd.heap_39 p) : CodeN C 5 (.ref 168) gWhole := by
  refine forC (Q := fun C => CodeN C 5 (.ref 168) gWhole) ?_ hC
  clear hC
  intro prog w h0 p pp loose mg mb KX T
  have hC : (Ctx.mk prog w h0 (hd.heap_39 p) pp loose mg mb KX T).K = hd.heap_39 p := rfl
  have h_fold_of := foldof_code hC
  clear hC
  refine CodeN.weakenW (codeDef (defOk_of (names := ["self", "code"]) (vars := [("self", 0, false), ("code", 1, false), ("found", 2, false)]) rfl rfl rfl rfl rfl rfl rfl (bind2 (fun zz1 zz2 => rfl)))
    (simCons (simAssign (simCallT rfl rfl rfl (by decide) (.cons (simGetI (simAttr (simVar m0) cls_FoldIndex rfl) (.cons (simVar m1) (.cons (simList .nil) .nil (fun zz1 => rfl)) (fun zz1 => rfl))) .nil (fun zz1 => rfl)) simN_listOf) m2)
    (simCons (simIf (simB_cmp (simCallFn rfl rfl rfl (.cons (simVar m1) (.cons (simAttr (simVar m0) cls_FoldIndex rfl) (.cons (simAttr (simVar m0) cls_FoldIndex rfl) .nil (fun zz1 => rfl)) (fun zz1 => rfl)) (fun zz1 => rfl)) h_fold_of.simN) (simTup (.cons (simVar m1) .nil (fun zz1 => rfl))) sim_eq) (simOne (simExpr (simAppend (simVar m2) (.cons (simVar m1) .nil (fun zz1 => rfl))))) simNil)
    (simOne (simReturn (simCallB rfl rfl rfl (by decide) (.cons (simVar m2) .nil (fun zz1 => rfl)) simN_sorted)))))) ?_
  rintro vs σ P wf ⟨li, T, t, cs, c, rfl, ⟨D, rows, o1, om, ow, m1, mm, mw, nb, k, X, B, hk, hm, hw⟩, hc, q⟩
  refine ⟨rfl, ?_⟩
  have K1 : Keeps NoW σ (σ.push (.list [])) := (Keeps.refl wf).pushI
  have X1 := X.keeps (W := NoW) wf K1 fun zz1 zz2 z => z
  have B1 := B.keep0 wf K1
  obtain ⟨y, hy, ey⟩ := got X1.hw c σ.n push_new
  refine ⟨_, rfl, i_attr X.at_ rfl ⟨⟨_, _, rfl, X.ew⟩, _, rfl, i_getI X1.ew hy ?_⟩⟩
  have hlen := getM_len X.zw c
  refine ⟨_, _, rfl, .inr ⟨y, rfl, ey⟩, by simp; (first | lia | omega), ?_⟩
  have K12 : Keeps NoW (σ.push (.list [])) ((σ.push (.list [])).push (.list (intsA (getM mw c)))) := (Keeps.refl K1.wf).pushI
  have K2 := K1.trans K12
  have X2 := X1.keeps (W := NoW) K1.wf K12 fun zz1 zz2 z => z
  have B2 := B1.keep0 K1.wf K12
  have e2 : ((σ.push (.list [])).push (.list (intsA (getM mw c)))).obj (σ.n + 1) = _ := push_new
  have n2 : ((σ.push (.list [])).push (.list (intsA (getM mw c)))).n = σ.n + 2 := rfl
  have hn1 : (σ.push (AO.list [])).n = σ.n + 1 := rfl
  rw [hn1]
  clear K12
  generalize (σ.push (.list [])).push (.list (intsA (getM mw c))) = σ2 at K2 X2 B2 e2 n2 ⊢
  refine ⟨_, rfl, _, rfl, li, _, _, rfl, X2.at_, rfl, _, rfl, li, _, _, rfl, X2.at_, rfl, D, T, rows, c, _, rfl, B2, hc, _, rfl, _, EqR.tints σ2 _ [c], _, rfl, fun ht => ?_, fun hf => ?_⟩
  · have he := of_decide_eq_true ht
    refine ⟨_, rfl, ⟨_, _, rfl, e2⟩, _, rfl, _, _, _, rfl, e2, by simp; (first | lia | omega), rfl, ?_⟩
    have K3 : Keeps NoW σ (σ2.set (σ.n + 1) (.list (intsA (getM mw c) ++ [.int c]))) := K2.setI (by (first | lia | omega)) fun h => absurd h (by (first | lia | omega))
    refine ⟨_, rfl, σ.n + 1, getM mw c ++ [c], rfl, by simp; (first | lia | omega), .inl (by rw [set_self]; simp), ?_⟩
    refine q _ _ K3.pushI ?_ ?_
    · show σ.n ≤ σ2.n; (first | lia | omega)
    · rw [push_new, hw]
      unfold wholeP
      rw [if_pos he]
  · have he := of_decide_eq_false hf
    refine ⟨_, rfl, σ.n + 1, getM mw c, rfl, by (first | lia | omega), .inl e2, ?_⟩
    refine q _ _ K2.pushI (by (first | lia | omega)) ?_
    rw [push_new, hw]
    unfold wholeP
    rw [if_neg he, List.append_nil]

noncomputable def gUnf : Fs := fun vs σ P => ∃ li T t cs g, vs = [.inst 199 li, .tup (intsA g)] ∧ IDX σ li T t cs ∧ g.length ≤ 1000 ∧ ∀ σ' r, Keeps NoW σ σ' → σ.n ≤ r → σ'.obj r = some (.list (intsA (unfP T t cs g))) → P (.ref r) σ'
theorem unf_code {C : Ctx} {p : Params} (hC : C.K = hd.heap_39 p) : CodeN C 5 (.ref 175) gUnf := by
  refine forC (Q := fun C => CodeN C 5 (.ref 175) gUnf) ?_ hC
  clear hC
  intro prog w h0 p pp loose mg mb KX T
  have hC : (Ctx.mk prog w h0 (hd.heap_39 p) pp loose mg mb KX T).K = hd.heap_39 p := rfl
  clear hC
  refine CodeN.weakenW (codeDef (defOk_of (names := ["self", "goal"]) (vars := [("self", 0, false), ("goal", 1, false)]) rfl rfl rfl rfl rfl rfl rfl (bind2 (fun zz1 zz2 => rfl)))
    (simOne (simReturn (simCallB rfl rfl rfl (by decide) (.cons (simGetT (simAttr (simVar m0) cls_FoldIndex rfl) (.cons (simCallT rfl rfl rfl (by decide) (.cons (simVar m1) .nil (fun zz1 => rfl)) simN_tupOf) (.cons (simList .nil) .nil (fun zz1 => rfl)) (fun zz1 => rfl))) .nil (fun zz1 => rfl)) simN_sorted)))) ?_
  rintro vs σ P wf ⟨li, T, t, cs, g, rfl, ⟨D, rows, o1, om, ow, m1, mm, mw, nb, k, X, B, hk, hm, hw⟩, hg, q⟩
  refine ⟨rfl, ?_⟩
  have K1 : Keeps NoW σ (σ.push (.list [])) := (Keeps.refl wf).pushI
  have X1 := X.keeps (W := NoW) wf K1 fun zz1 zz2 z => z
  obtain ⟨y, hy, ey⟩ := got X1.hm g σ.n push_new
  refine ⟨_, rfl, i_attr X.at_ rfl ⟨⟨_, _, rfl, X.em⟩, _, rfl, _, _, rfl, .inl rfl, by simp; (first | lia | omega), i_getT X1.em hy ?_⟩⟩
  have hlen := getM_len X.zm g
  refine ⟨y, getM mm g, rfl, by (first | lia | omega), .inl ey, ?_⟩
  refine q _ _ K1.pushI (Nat.le_succ _) ?_
  rw [push_new, hm]; rfl
end Mine
end

noncomputable section
open PySem PySem.W PyProof.Rows PySem.Calls PySem.Spec
set_option Elab.async false
set_option maxRecDepth 100000
set_option maxHeartbeats 0
set_option linter.all false
namespace Mine

/-- rows of ints at places of a kind -/
inductive RowsQ (Q : Nat → Prop) (σ : St) : List AV → List (List Int) → Prop
  | nil : RowsQ Q σ [] []
  | cons (l vs ns nss) : Q l → σ.obj l = some (.list (intsA ns)) → RowsQ Q σ vs nss → RowsQ Q σ (.ref l :: vs) (ns :: nss)
theorem RowsQ.rows {Q σ vs nss} (r : RowsQ Q σ vs nss) : Rows σ vs nss := by
  induction r with
  | nil => exact .nil
  | cons l vs ns nss _ e _ ih => exact .cons l vs ns nss e ih
theorem RowsQ.mono {Q Q' : Nat → Prop} {σ σ' vs nss} (r : RowsQ Q σ vs nss) (hq : ∀ l, l < σ.n → Q l → Q' l) (wf : WF σ) (h : ∀ l o, Q l → σ.obj l = some o → σ'.obj l = some o) : RowsQ Q' σ' vs nss := by
  induction r with
  | nil => exact .nil
  | cons l vs ns nss q e _ ih => exact .cons l vs ns nss (hq l (wf _ _ e) q) (h l _ q e) ih
theorem RowsQ.app {Q σ vs nss vs' nss'} (r : RowsQ Q σ vs nss) (r' : RowsQ Q σ vs' nss') : RowsQ Q σ (vs ++ vs') (nss ++ nss') := by
  induction r with
  | nil => exact r'
  | cons l vs ns nss q e _ ih => exact .cons l _ ns _ q e ih
theorem RowsQ.length {Q σ vs nss} (r : RowsQ Q σ vs nss) : vs.length = nss.length := by
  induction r with
  | nil => rfl
  | cons l vs ns nss q e _ ih => simp [ih]
theorem RowsQ.get {Q σ vs nss} (r : RowsQ Q σ vs nss) {i : Nat} {v : AV} (h : vs[i]? = some v) : ∃ l ns, v = .ref l ∧ nss[i]? = some ns ∧ Q l ∧ σ.obj l = some (.list (intsA ns)) := by
  induction r generalizing i with
  | nil => simp at h
  | cons l vs ns nss q e _ ih =>
    cases i with
    | zero => simp at h; exact ⟨l, ns, h.symm, rfl, q, e⟩
    | succ i => exact ih (i := i) (by simpa using h)

noncomputable def spellStep (T : Told) (t : Bool) (cs : List Int) (found : List (List Int)) (c : Int) : List (List Int) := found.flatMap fun h => (wholeP T t cs c).map fun o => h ++ [o]
noncomputable def spellP (T : Told) (t : Bool) (cs : List Int) (goal : List Int) : List (List Int) := goal.foldl (spellStep T t cs) [[]]

noncomputable def gSpell : Fs := fun vs σ P => ∃ li T t cs goal, vs = [.inst 199 li, .tup (intsA goal)] ∧ IDX σ li T t cs ∧ (∀ c ∈ goal, 0 ≤ c) ∧ goal.length ≤ 3 ∧ (∀ c, (wholeP T t cs c).length ≤ 50) ∧
  ∀ σ' r vs, Keeps NoW σ σ' → σ.n ≤ r → σ'.obj r = some (.list vs) → RowsQ (fun l => σ.n ≤ l) σ' vs (spellP T t cs goal) → P (.ref r) σ'

theorem spell_len (T : Told) (t : Bool) (cs : List Int) (h : ∀ c, (wholeP T t cs c).length ≤ 50) (goal : List Int) : ∀ found, (goal.foldl (spellStep T t cs) found).length ≤ found.length * 50 ^ goal.length := by
  induction goal with
  | nil => intro f; simp
  | cons c r ih =>
    intro f
    refine Nat.le_trans (ih _) ?_
    have h1 : (spellStep T t cs f c).length ≤ f.length * 50 := by
      unfold spellStep
      induction f with
      | nil => simp
      | cons x f ihf =>
        simp only [List.flatMap_cons, List.length_append, List.length_map, List.length_cons]
        have := h c
        (first | lia | omega)
    calc (spellStep T t cs f c).length * 50 ^ r.length ≤ f.length * 50 * 50 ^ r.length := Nat.mul_le_mul_right _ h1
      _ = f.length * 50 ^ (r.length + 1) := by rw [Nat.pow_succ, Nat.mul_assoc, Nat.mul_comm 50]
      _ = f.length * 50 ^ (c :: r).length := rfl
theorem step_len (T : Told) (t : Bool) (cs : List Int) (h : ∀ c, (wholeP T t cs c).length ≤ 50) (f : List (List Int)) (c : Int) : (f.flatMap fun h => (wholeP T t cs c).map fun o => h ++ [o]).length ≤ f.length * 50 := by
  induction f with
  | nil => simp
  | cons x f ihf =>
    simp only [List.flatMap_cons, List.length_append, List.length_map, List.length_cons]
    have := h c
    (first | lia | omega)

theorem spell_rows (T : Told) (t : Bool) (cs : List Int) : ∀ (goal : List Int) (found : List (List Int)) (n : Nat), (∀ h ∈ found, h.length = n) → ∀ h ∈ goal.foldl (spellStep T t cs) found, h.length = n + goal.length
  | [], found, n, hf, h, hh => hf h hh
  | c :: r, found, n, hf, h, hh => by
    have := spell_rows T t cs r (spellStep T t cs found c) (n + 1) (fun x hx => by
      obtain ⟨y, hy, hx⟩ := List.mem_flatMap.mp hx
      obtain ⟨o, _, rfl⟩ := List.mem_map.mp hx
      simp [hf y hy]) h hh
    rw [this, List.length_cons]; (first | lia | omega)
theorem spell_rowlen (T : Told) (t : Bool) (cs goal : List Int) : ∀ h ∈ spellP T t cs goal, h.length = goal.length := fun h hh => by
  have := spell_rows T t cs goal [[]] 0 (fun x hx => by simp at hx; subst hx; rfl) h hh
  (first | lia | omega)

theorem spell_code {C : Ctx} {p : Params} (hC : C.K = hd.heap_39 p) : CodeN C 6 (.ref 189) gSpell := by
  refine forC (Q := fun C => CodeN C 6 (.ref 189) gSpell) ?_ hC
  clear hC
  intro prog w h0 p pp loose mg mb KX T
  have hC : (Ctx.mk prog w h0 (hd.heap_39 p) pp loose mg mb KX T).K = hd.heap_39 p := rfl
  have h_FoldIndex_whole := whole_code hC
  clear hC
  refine CodeN.weakenW (codeDef (defOk_of (names := ["self", "goal"]) (vars := [("self", 0, false), ("goal", 1, false), ("found", 2, false), ("code", 3, false), ("longer", 4, false), ("head", 5, false), ("one", 6, false)]) rfl rfl rfl rfl rfl rfl rfl (bind2 (fun zz1 zz2 => rfl)))
    (simCons (simAssign (simList (.cons (simList .nil) .nil (fun zz1 => rfl))) m2)
    (simCons (simFor (simI (simVar m1) srcOk_seq) (simT_name m3) (simCons (simAssign (simList .nil) m4)
    (simCons (simFor (simI (simVar m2) srcOk_seq) (simT_name m5) (simOne (simFor (simI (simMeth (simVar m0) (.cons (simVar m3) .nil (fun zz1 => rfl)) cls_FoldIndex rfl rfl rfl h_FoldIndex_whole.simN) srcOk_seq) (simT_name m6) (simOne (simExpr (simAppend (simVar m4) (.cons (simBin (simVar m5) (simList (.cons (simVar m6) .nil (fun zz1 => rfl))) sim_add) .nil (fun zz1 => rfl))))))))
    (simOne (simAssign (simVar m4) m2)))))
    (simOne (simReturn (simVar m2)))))) ?_
  rintro vs σ P wf ⟨li, T, t, cs, goal, rfl, X, hg, hz, hw, q⟩
  refine ⟨rfl, ?_⟩
  have K1 : Keeps NoW σ (σ.push (.list [])) := (Keeps.refl wf).pushI
  have K2 : Keeps NoW σ ((σ.push (.list [])).push (.list [.ref σ.n])) := K1.pushI
  refine ⟨_, rfl, ?_⟩
  refine gSeqT ?_
  refine forL_all _ (fun i ρ σ' => Keeps NoW σ σ' ∧ ρ 0 = some (.inst 199 li) ∧ ∃ f vs, ρ 2 = some (.ref f) ∧ σ.n ≤ f ∧ σ'.obj f = some (.list vs) ∧ RowsQ (fun l => σ.n ≤ l) σ' vs (spellP T t cs (goal.take i))) (fun zz1 zz2 zz3 => False) ?_ ?_ (fun zz1 zz2 zz3 h => h.elim)
    ⟨K2, rfl, σ.n + 1, _, rfl, Nat.le_succ _, push_new, .cons σ.n [] [] [] (Nat.le_refl _) (push_old K1.wf push_new) .nil⟩
  · rintro i v ρ σ' Q hv ⟨K', r0, f, fs, r2, hf, ef, RF⟩ hQ hR
    rw [List.getElem?_map] at hv
    cases hx : goal[i]? with
    | none => rw [hx] at hv; cases hv
    | some c =>
      rw [hx] at hv; cases hv
      have hi := (List.getElem?_eq_some_iff.mp hx).1
      have hfl : (spellP T t cs (goal.take i)).length ≤ 2500 := by
        have := spell_len T t cs hw (goal.take i) [[]]
        have h2 : (goal.take i).length ≤ 2 := by simp; (first | lia | omega)
        have h3 : 50 ^ (goal.take i).length ≤ 50 ^ 2 := Nat.pow_le_pow_right (by decide) h2
        simp only [List.length_cons, List.length_nil] at this
        unfold spellP
        (first | lia | omega)
      have K1' : Keeps NoW σ (σ'.push (.list [])) := K'.pushI
      have KK : Keeps NoW σ' (σ'.push (.list [])) := (Keeps.refl K'.wf).pushI
      have hlg : (σ'.push (.list [])).obj σ'.n = some (.list []) := push_new
      refine ⟨_, r2, ?_⟩
      refine gSeqL (push_old K'.wf ef) ?_
      -- over the heads
      refine forL_all _ (fun j ρ2 σ2 => Keeps NoW σ' σ2 ∧ ρ2 0 = some (.inst 199 li) ∧ ρ2 3 = some (.int c) ∧ ρ2 4 = some (.ref σ'.n) ∧ ∃ ws, σ2.obj σ'.n = some (.list ws) ∧ RowsQ (fun l => σ'.n < l) σ2 ws (((spellP T t cs (goal.take i)).take j).flatMap fun h => (wholeP T t cs c).map fun o => h ++ [o])) (fun zz1 zz2 zz3 => False) ?_ ?_ (fun zz1 zz2 zz3 h => h.elim)
        ⟨KK, r0, rfl, rfl, [], hlg, .nil⟩
      · rintro j v2 ρ2 σ2 Q2 hv2 ⟨K2', s0, s3, s4, ws, ew, RW⟩ hQ2 hR2
        obtain ⟨l, ns, rfl, hns, hl, el⟩ := RF.get hv2
        have hc0 := hg c (List.mem_of_getElem? hx)
        have X2 := X.keep0 wf (K'.trans K2')
        obtain ⟨D, rows, o1, om, ow, m1, mm, mw, nb, k, X', _⟩ := id X2
        refine ⟨_, s0, ⟨_, _, rfl, X'.at_, rfl⟩, _, s3, li, T, t, cs, c, rfl, X2, hc0, ?_⟩
        intro σ3 r K3 hr er
        refine gSeqL (er) ?_
        have hln : l < σ'.n := K'.wf _ _ el
        -- over the codes
        refine forL_all _ (fun m ρ4 σ4 => Keeps NoW σ' σ4 ∧ σ3.n ≤ σ4.n ∧ ρ4 0 = some (.inst 199 li) ∧ ρ4 3 = some (.int c) ∧ ρ4 4 = some (.ref σ'.n) ∧ ρ4 5 = some (.ref l) ∧ σ4.obj r = some (.list (intsA (wholeP T t cs c))) ∧ ∃ ws, σ4.obj σ'.n = some (.list ws) ∧
          RowsQ (fun l => σ'.n < l) σ4 ws ((((spellP T t cs (goal.take i)).take j).flatMap fun h => (wholeP T t cs c).map fun o => h ++ [o]) ++ ((wholeP T t cs c).take m).map fun o => ns ++ [o])) (fun zz1 zz2 zz3 => False) ?_ ?_ (fun zz1 zz2 zz3 h => h.elim)
          ⟨K2'.trans K3, Nat.le_refl _, s0, s3, s4, rfl, er, ws, K3.mono' K2'.wf _ _ ew, by simpa using RW.mono (fun zz1 zz2 h => h) K2'.wf fun l o zz1 e => K3.mono' K2'.wf _ _ e⟩
        · rintro m v4 ρ4 σ4 Q4 hv4 ⟨K4, hn4, u0, u3, u4, u5, er4, ws4, ew4, RW4⟩ hQ4 hR4
          rw [List.getElem?_map] at hv4
          cases hx4 : (wholeP T t cs c)[m]? with
          | none => rw [hx4] at hv4; cases hv4
          | some o =>
            rw [hx4] at hv4; cases hv4
            have el4 := K4.mono' K'.wf _ _ el
            have K5 : Keeps NoW σ4 (σ4.push (.list [.int o])) := (Keeps.refl K4.wf).pushI
            have K6 : Keeps NoW σ4 ((σ4.push (.list [.int o])).push (.list (intsA ns ++ [.int o]))) := K5.pushI
            have hlt : σ'.n < σ4.n := K4.wf _ _ ew4
            have hws : ws4.length ≤ 200000 := by
              have h1 := step_len T t cs hw ((spellP T t cs (goal.take i)).take j) c
              have h2 := Nat.le_trans (List.length_take_le' m (wholeP T t cs c)) (hw c)
              have h3 := Nat.le_trans (List.length_take_le' j (spellP T t cs (goal.take i))) hfl
              rw [RW4.length, List.length_append, List.length_map]
              exact Nat.le_trans (Nat.add_le_add (Nat.le_trans h1 (Nat.mul_le_mul_right 50 h3)) h2) (by decide)
            have hns3 : ns.length ≤ 900000 := by
              have := spell_rowlen T t cs (goal.take i) ns (List.mem_of_getElem? hns)
              rw [this, List.length_take]; (first | lia | omega)
            have ew6 := K6.mono' K4.wf _ _ ew4
            refine ⟨_, u4, ⟨_, _, rfl, ew4⟩, _, u5, _, rfl, .inr (.inl ⟨l, σ4.n, intsA ns, [.int o], rfl, rfl, push_old K4.wf el4, push_new, by simp; (first | lia | omega), ?_⟩)⟩
            have hne : ∀ y, y ≠ σ'.n → ∀ x, ((σ4.push (.list [.int o])).push (.list (intsA ns ++ [.int o]))).obj y = some x → (((σ4.push (.list [.int o])).push (.list (intsA ns ++ [.int o]))).set σ'.n (.list (ws4 ++ [.ref (σ4.n + 1)]))).obj y = some x := fun y hy x e => set_other e hy
            refine ⟨σ'.n, ws4, .ref (σ4.n + 1), rfl, ew6, by (first | lia | omega), rfl, ?_⟩
            have hrne : r ≠ σ'.n := by have := K2'.le; have : σ'.n < σ2.n := K2'.wf _ _ ew; (first | lia | omega)
            refine (hQ4 (upd ρ4 6 (some (.int o))) _ ⟨K4.pushI.pushI.setI (by show σ'.n < σ4.n + 1 + 1; (first | lia | omega)) (fun h => absurd h (Nat.lt_irrefl _)), ?_, u0, u3, u4, u5, hne _ hrne _ (K6.mono' K4.wf _ _ er4), _, set_self, ?_⟩ (hne _ hrne _ (K6.mono' K4.wf _ _ er4))).1
            · show σ3.n ≤ σ4.n + 1 + 1; (first | lia | omega)
            · rw [List.take_add_one, hx4, List.map_append, ← List.append_assoc]
              refine RowsQ.app (RW4.mono (fun zz1 zz2 h => h) K4.wf fun y x hy e => hne y (Nat.ne_of_gt hy) x (K6.mono' K4.wf _ _ e)) ?_
              refine .cons (σ4.n + 1) [] _ [] (by (first | lia | omega)) (hne _ (by (first | lia | omega)) _ ?_) .nil
              have : (((σ4.push (.list [.int o])).push (.list (intsA ns ++ [.int o]))).obj (σ4.n + 1)) = some (.list (intsA ns ++ [.int o])) := push_new
              rw [this]; simp
        · rintro ρ4 σ4 ⟨K4, hn4, u0, u3, u4, u5, er4, ws4, ew4, RW4⟩
          refine (hQ2 ρ4 σ4 ⟨K4, u0, u3, u4, ws4, ew4, ?_⟩ (K4.mono' K'.wf _ _ ef)).1
          rw [List.length_map, List.take_length] at RW4
          rw [List.take_add_one, hns, List.flatMap_append]
          simpa using RW4
      · rintro ρ2 σ2 ⟨K2', s0, s3, s4, ws, ew, RW⟩
        refine ⟨_, s4, (hQ (upd ρ2 2 (some (.ref σ'.n))) σ2 ⟨K'.trans K2', s0, σ'.n, ws, rfl, K'.le, ew, ?_⟩ trivial).1⟩
        rw [RF.length, List.take_length] at RW
        rw [List.take_add_one, hx]
        unfold spellP at RW ⊢
        rw [List.foldl_append]
        exact RW.mono (fun l zz1 h => by have := K'.le; (first | lia | omega)) K2'.wf fun l o zz1 e => e
  · rintro ρ σ' ⟨K', r0, f, vs, r2, hf, ef, RF⟩
    rw [List.length_map, List.take_length] at RF
    exact ⟨_, r2, q σ' f vs K' hf ef RF⟩
end Mine
end

noncomputable section
open PySem PySem.W PyProof.Rows PySem.Calls PySem.Spec
set_option Elab.async false
set_option maxRecDepth 100000
set_option maxHeartbeats 0
set_option linter.all false
namespace Mine

noncomputable def stringsP (T : Told) (t : Bool) (cs : List Int) (c : Int) : List (List Int) := if (foldT T (stsOf true t) c).length = 1 then [] else spellP T t cs (foldT T (stsOf true t) c)
noncomputable def gStrings : Fs := fun vs σ P => ∃ li T t cs c, vs = [.inst 199 li, .int c] ∧ IDX σ li T t cs ∧ 0 ≤ c ∧ (∀ x ∈ foldT T (stsOf true t) c, 0 ≤ x) ∧ (∀ c, (wholeP T t cs c).length ≤ 50) ∧
  ∀ σ' r vs, Keeps NoW σ σ' → σ.n ≤ r → σ'.obj r = some (.list vs) → RowsQ (fun l => σ.n ≤ l) σ' vs (stringsP T t cs c) → P (.ref r) σ'
theorem strings_code {C : Ctx} {p : Params} (hC : C.K = hd.heap_39 p) : CodeN C 7 (.ref 182) gStrings := by
  refine forC (Q := fun C => CodeN C 7 (.ref 182) gStrings) ?_ hC
  clear hC
  intro prog w h0 p pp loose mg mb KX T
  have hC : (Ctx.mk prog w h0 (hd.heap_39 p) pp loose mg mb KX T).K = hd.heap_39 p := rfl
  have h_fold_of := (foldof_code hC).mono (show 4 ≤ 6 by decide)
  have h_FoldIndex_spelled := spell_code hC
  clear hC
  refine CodeN.weakenW (codeDef (defOk_of (names := ["self", "code"]) (vars := [("self", 0, false), ("code", 1, false), ("goal", 2, false)]) rfl rfl rfl rfl rfl rfl rfl (bind2 (fun zz1 zz2 => rfl)))
    (simCons (simAssign (simCallFn rfl rfl rfl (.cons (simVar m1) (.cons (simAttr (simVar m0) cls_FoldIndex rfl) (.cons (simAttr (simVar m0) cls_FoldIndex rfl) .nil (fun zz1 => rfl)) (fun zz1 => rfl)) (fun zz1 => rfl)) h_fold_of.simN) m2)
    (simOne (simReturn (simIfe (simB_cmp (simCallB rfl rfl rfl (by decide) (.cons (simVar m2) .nil (fun zz1 => rfl)) simN_len) simConst_int sim_eq) (simList .nil) (simMeth (simVar m0) (.cons (simVar m2) .nil (fun zz1 => rfl)) cls_FoldIndex rfl rfl rfl h_FoldIndex_spelled.simN)))))) ?_
  rintro vs σ P wf ⟨li, T, t, cs, c, rfl, X, hc, hx, hw, q⟩
  obtain ⟨D, rows, o1, om, ow, m1, mm, mw, nb, k, X', B, _⟩ := id X
  refine ⟨rfl, ?_⟩
  refine ⟨_, rfl, _, rfl, li, _, _, rfl, X'.at_, rfl, _, rfl, li, _, _, rfl, X'.at_, rfl, D, T, rows, c, _, rfl, B, hc, ?_⟩
  have h3 := foldT_len B (stsOf true t) c
  refine ⟨_, rfl, _, _, rfl, rfl, by simp; (first | lia | omega), _, .int _ _, _, rfl, fun ht => ?_, fun hf => ?_⟩
  · have h1 : (foldT T (stsOf true t) c).length = 1 := by simp at ht; (first | lia | omega)
    refine q _ σ.n [] (Keeps.refl wf).pushI (Nat.le_refl _) push_new ?_
    unfold stringsP
    rw [if_pos h1]; exact .nil
  · have h1 : (foldT T (stsOf true t) c).length ≠ 1 := by
      intro h; simp [h] at hf
    refine ⟨_, rfl, ⟨_, _, rfl, X'.at_, rfl⟩, _, rfl, li, T, t, cs, _, rfl, X, hx, h3, hw, ?_⟩
    intro σ' r vs K hr er R
    refine q σ' r vs K hr er ?_
    unfold stringsP
    rw [if_neg h1]; exact R

/-! ### the wheel -/
structure Wheel (σ : St) (lw sp : Nat) : Prop where
  ex : ∃ r ns, σ.obj lw = some (.dS [("spokes", .ref sp), ("round", .int r)]) ∧ σ.obj sp = some (.list (intsA ns)) ∧ ns.length ≤ 63 ∧ ∀ x ∈ ns, 0 ≤ x
noncomputable def gTurn : Fs := fun vs σ P => ∃ lw sp base, vs = [.ref lw, .int base] ∧ Wheel σ lw sp ∧ 0 < base ∧ base < 1000 ∧ ∀ σ' t, Keeps (fun y => y = lw ∨ y = sp) σ σ' → Wheel σ' lw sp → 0 ≤ t → t < base → P (.int t) σ'

theorem fmod_range {a b : Int} (h : 0 < b) : 0 ≤ a.fmod b ∧ a.fmod b < b := by
  have h1 := Int.fmod_nonneg_of_pos a h
  have h2 := Int.fmod_lt_of_pos a h
  exact ⟨h1, h2⟩

theorem turn_code {C : Ctx} {p : Params} (hC : C.K = hd.heap_39 p) : CodeN C 1 (.ref 261) gTurn := by
  refine forC (Q := fun C => CodeN C 1 (.ref 261) gTurn) ?_ hC
  clear hC
  intro prog w h0 p pp loose mg mb KX T
  have hC : (Ctx.mk prog w h0 (hd.heap_39 p) pp loose mg mb KX T).K = hd.heap_39 p := rfl
  clear hC
  refine CodeN.weakenW (codeDef (defOk_of (names := ["wheel", "base"]) (vars := [("wheel", 0, false), ("base", 1, false), ("spoke", 2, false)]) rfl rfl rfl rfl rfl rfl rfl (bind2 (fun zz1 zz2 => rfl)))
    (simCons (simAssignT (simBin (simSub (simVar m0) simConst_str) simConst_int sim_add) (simT_sub (simVar m0) simConst_str))
    (simCons (simIf (simB_cmp (simSub (simVar m0) simConst_str) (simList .nil) sim_eq) (simOne (simReturn (simBin (simBin (simBin simConst_int (simSub (simVar m0) simConst_str) sim_mul) (simBin (simSub (simVar m0) simConst_str) simConst_int sim_div) sim_add) (simVar m1) sim_mod))) simNil)
    (simCons (simAssign (simPop (simSub (simVar m0) simConst_str) .nil) m2)
    (simCons (simIf (simB_cmp (simVar m2) (simVar m1) sim_ge) (simOne (simExpr (simAppend (simSub (simVar m0) simConst_str) (.cons (simBin (simVar m2) (simVar m1) sim_div) .nil (fun zz1 => rfl))))) simNil)
    (simOne (simReturn (simBin (simVar m2) (simVar m1) sim_mod)))))))) ?_
  rintro vs σ P wf ⟨lw, sp, base, rfl, ⟨r, ns, e1, e2, hn, hpos⟩, hb, hb2, q⟩
  refine ⟨rfl, ?_⟩
  have hlw := wf _ _ e1
  have hsp := wf _ _ e2
  have hne : lw ≠ sp := obj_ne e1 e2 (by simp)
  refine ⟨_, rfl, ?_⟩
  first | refine gItemL (e1) ?_ | refine gItemS (e1) ?_ | refine gItemI (e1) ?_
  refine ⟨.int r, rfl, .inl ⟨_, _, rfl, rfl, _, rfl, ?_⟩⟩
  first | refine gSetS (e1) ?_ | refine gSetI (e1) ?_
  refine ⟨Nat.le_of_ble_eq_true rfl, ?_⟩
  have K1 : Keeps (fun y => y = lw ∨ y = sp) σ (σ.set lw (.dS (put [("spokes", .ref sp), ("round", .int r)] "round" (.int (r + 1))))) := (Keeps.refl wf).setI hlw fun zz1 => .inl rfl
  have f1 : (σ.set lw (.dS (put [("spokes", .ref sp), ("round", .int r)] "round" (.int (r + 1))))).obj lw = some (.dS [("spokes", .ref sp), ("round", .int (r + 1))]) := set_self
  have f2 := set_other (o := .dS (put [("spokes", .ref sp), ("round", .int r)] "round" (.int (r + 1)))) e2 (Ne.symm hne)
  generalize σ.set lw (.dS (put [("spokes", .ref sp), ("round", .int r)] "round" (.int (r + 1)))) = σ1 at K1 f1 f2 ⊢
  refine ⟨_, rfl, ?_⟩
  first | refine gItemL (f1) ?_ | refine gItemS (f1) ?_ | refine gItemI (f1) ?_
  refine ⟨.ref sp, rfl, ?_⟩
  -- == []
  have w2 := push_wf (o := .list []) K1.wf
  have K2 : Keeps (fun y => y = lw ∨ y = sp) σ (σ1.push (.list [])) := K1.pushI
  have g1 := push_old (o := .list []) K1.wf f1
  have g2 := push_old (o := .list []) K1.wf f2
  refine ⟨_, EqR.lints (b := []) g2 push_new, _, rfl, fun ht => ?_, fun hf => ?_⟩
  · have hns : ns = [] := of_decide_eq_true ht
    refine ⟨_, rfl, ?_⟩
    first | refine gItemL (g1) ?_ | refine gItemS (g1) ?_ | refine gItemI (g1) ?_
    refine ⟨.int (r + 1), rfl, _, _, rfl, rfl, ⟨by decide, by decide⟩, ?_⟩
    refine ⟨_, rfl, ?_⟩
    first | refine gItemL (g1) ?_ | refine gItemS (g1) ?_ | refine gItemI (g1) ?_
    refine ⟨.int (r + 1), rfl, _, _, rfl, rfl, ⟨by decide, by decide⟩, .inl ⟨_, _, rfl, rfl, _, rfl, _, _, rfl, rfl, by (first | lia | omega), ?_⟩⟩
    have := fmod_range (a := 5 * (r + 1) + (r + 1).fdiv 5) hb
    exact q _ _ K2 ⟨_, ns, g1, g2, hn, hpos⟩ this.1 this.2
  · have hns : ns ≠ [] := of_decide_eq_false hf
    obtain ⟨ns0, x, rfl⟩ : ∃ a x, ns = a ++ [x] := ⟨ns.dropLast, ns.getLast hns, (List.dropLast_concat_getLast hns).symm⟩
    refine ⟨_, rfl, ?_⟩
    first | refine gItemL (g1) ?_ | refine gItemS (g1) ?_ | refine gItemI (g1) ?_
    have g2' : (σ1.push (.list [])).obj sp = some (.list (intsA ns0 ++ [.int x])) := by rw [g2]; simp
    have hx := hpos x (by simp)
    refine ⟨.ref sp, rfl, ⟨_, _, rfl, g2'⟩, sp, intsA ns0, .int x, rfl, g2', by simp at hn ⊢; (first | lia | omega), ?_⟩
    have hsp2 : sp < (σ1.push (.list [])).n := w2 _ _ g2
    have K3 : Keeps (fun y => y = lw ∨ y = sp) σ ((σ1.push (.list [])).set sp (.list (intsA ns0))) := K2.setI hsp2 fun zz1 => .inr rfl
    have k1 := set_other (o := .list (intsA ns0)) g1 hne
    have k2 : ((σ1.push (.list [])).set sp (.list (intsA ns0))).obj sp = _ := set_self
    generalize (σ1.push (.list [])).set sp (.list (intsA ns0)) = σ3 at K3 k1 k2 ⊢
    have hmod := fmod_range (a := x) hb
    have hn0 : ns0.length ≤ 62 := by simp at hn; (first | lia | omega)
    refine ⟨_, rfl, _, rfl, _, _, rfl, rfl, _, rfl, fun hge => ?_, fun hlt => ?_⟩
    · refine ⟨_, rfl, ?_⟩
      first | refine gItemL (k1) ?_ | refine gItemS (k1) ?_ | refine gItemI (k1) ?_
      refine ⟨.ref sp, rfl, ⟨_, _, rfl, k2⟩, _, rfl, _, rfl, _, _, rfl, rfl, ⟨hb, hb2⟩, sp, _, _, rfl, k2, by simp; (first | lia | omega), rfl, ?_⟩
      refine ⟨_, rfl, _, rfl, _, _, rfl, rfl, by (first | lia | omega), ?_⟩
      refine q _ _ (K3.setI (K3.wf _ _ k2) fun zz1 => .inr rfl) ⟨r + 1, ns0 ++ [x.fdiv base], set_other k1 hne, by rw [set_self]; simp, by simp; (first | lia | omega), ?_⟩ hmod.1 hmod.2
      intro y hy
      rcases List.mem_append.mp hy with hy | hy
      · exact hpos y (by simp [hy])
      · simp at hy; subst hy
        exact Int.fdiv_nonneg hx (by (first | lia | omega))
    · refine ⟨_, rfl, _, rfl, _, _, rfl, rfl, by (first | lia | omega), ?_⟩
      exact q _ _ K3 ⟨r + 1, ns0, k1, k2, by (first | lia | omega), fun y hy => hpos y (by simp [hy])⟩ hmod.1 hmod.2
end Mine
end

noncomputable section
open PySem PySem.W PyProof.Rows PySem.Calls PySem.Spec
set_option Elab.async false
set_option maxRecDepth 100000
set_option maxHeartbeats 0
set_option linter.all false
namespace Mine

structure ToldR (σ : St) (lt : Nat) (T : Told) : Prop where
  at_ : σ.obj lt = some (.dI (T.map fun t => (t.1, .ref t.2.1)))
  rows : ∀ t ∈ T, σ.obj t.2.1 = some (.dS (rowA t.2.2))
theorem ToldR.keep0 {σ σ' lt T} (x : ToldR σ lt T) (wf : WF σ) (K : Keeps NoW σ σ') : ToldR σ' lt T := ⟨K.mono' wf _ _ x.at_, fun t ht => K.mono' wf _ _ (x.rows t ht)⟩

theorem look_told (T : Told) (c : Int) : look (T.map fun t => (t.1, AV.ref t.2.1)) c = (findT T c).map fun t => .ref t.2.1 := by
  induction T with
  | nil => rfl
  | cons t r ih =>
    by_cases h : t.1 = c
    · simp [look, findT, h]
    · simp only [List.map_cons, look, findT, List.find?_cons, h, decide_false] at ih ⊢
      exact ih

noncomputable def elig (tk : Bool) (s : Str) : Bool := tk || s != "T"
theorem elig_sts (tk : Bool) : ((["T", "F", "C"] : List Str).filter (elig tk)) = stsOf true tk := by cases tk <;> decide +kernel

noncomputable def gLawFold : Fs := fun vs σ P => ∃ lt T tk c, vs = [.ref lt, .bool tk, .int c] ∧ ToldR σ lt T ∧ ∀ σ', Keeps NoW σ σ' → P (.tup (intsA (foldT T (stsOf true tk) c))) σ'
theorem lawfold_code {C : Ctx} {p : Params} (hC : C.K = hd.heap_39 p) : CodeN C 1 (.ref 273) gLawFold := by
  refine forC (Q := fun C => CodeN C 1 (.ref 273) gLawFold) ?_ hC
  clear hC
  intro prog w h0 p pp loose mg mb KX T
  have hC : (Ctx.mk prog w h0 (hd.heap_39 p) pp loose mg mb KX T).K = hd.heap_39 p := rfl
  clear hC
  refine CodeN.weakenW (codeDef (defOk_of (names := ["told", "is_turkic", "code"]) (vars := [("told", 0, false), ("is_turkic", 1, false), ("code", 2, false), ("row", 3, false), ("status", 4, false)]) rfl rfl rfl rfl rfl rfl rfl (bind3 (fun zz1 zz2 zz3 => rfl)))
    (simCons (simAssign (simGetI (simVar m0) (.cons (simVar m2) (.cons (simDict0 0) .nil (fun zz1 => rfl)) (fun zz1 => rfl))) m3)
    (simCons (simFor (simI (simTup (.cons simConst_str (.cons simConst_str (.cons simConst_str .nil (fun zz1 => rfl)) (fun zz1 => rfl)) (fun zz1 => rfl))) srcOk_seq) (simT_name m4) (simOne (simIf (simB_and (simB_cmp (simVar m4) (simVar m3) sim_inS) (simB_or (simB_val (simVar m1)) (simB_cmp (simVar m4) simConst_str sim_ne))) (simOne (simReturn (simSub (simVar m3) (simVar m4)))) simNil)))
    (simOne (simReturn (simTup (.cons (simVar m2) .nil (fun zz1 => rfl)))))))) ?_
  rintro vs σ P wf ⟨lt, T, tk, c, rfl, R, q⟩
  refine ⟨rfl, ?_⟩
  have K1 : Keeps NoW σ (σ.push (emptyD 0)) := (Keeps.refl wf).pushI
  have R1 := R.keep0 wf K1
  -- the row found
  obtain ⟨y, row, hy, ey, hrow⟩ : ∃ y row, ((findT T c).map fun t => AV.ref t.2.1).getD (.ref σ.n) = .ref y ∧ (σ.push (emptyD 0)).obj y = some (.dS (rowA row)) ∧ foldT T (stsOf true tk) c = foldRow row (stsOf true tk) c := by
    unfold foldT
    cases hf : findT T c with
    | none =>
      refine ⟨σ.n, [], rfl, push_new, ?_⟩
      have : (stsOf true tk).findSome? (fun s => look ([] : Row) s) = none := by
        rw [List.findSome?_eq_none_iff]; intro s _; rfl
      simp only [foldRow, this]
    | some t => exact ⟨t.2.1, t.2.2, rfl, R1.rows t (findT_mem hf).1, rfl⟩
  rw [hrow] at q
  refine ⟨_, rfl, ⟨_, _, rfl, R.at_⟩, _, rfl, i_getI R1.at_ ((congrArg (fun o => o.getD (.ref σ.n)) (look_told T c)).trans hy) ?_⟩
  have q1 := q (σ.push (emptyD 0)) K1
  generalize σ.push (emptyD 0) = σ1 at ey q1 ⊢
  have hvs : ([.str (Str.ofString "T"), .str (Str.ofString "F"), .str (Str.ofString "C")] : List AV) = (["T", "F", "C"] : List Str).map AV.str := rfl
  refine gSeqT ?_
  rw [hvs]
  refine forL_all _ (fun i ρ σ' => σ' = σ1 ∧ ρ 1 = some (.bool tk) ∧ ρ 2 = some (.int c) ∧ ρ 3 = some (.ref y) ∧ (((["T", "F", "C"] : List Str).take i).filter (elig tk)).findSome? (fun s => look row s) = none) (fun w ρ σ' => σ' = σ1 ∧ w = .tup (intsA (foldRow row (stsOf true tk) c))) ?_ ?_ ?_ ⟨rfl, rfl, rfl, rfl, rfl⟩
  · rintro i v ρ σ' Q hv ⟨rfl, r1, r2, r3, hno⟩ hQ hR
    rw [List.getElem?_map] at hv
    generalize hsts : (["T", "F", "C"] : List Str) = sts at hv hno
    cases hx : sts[i]? with
    | none => rw [hx] at hv; cases hv
    | some x =>
      rw [hx] at hv; cases hv
      obtain ⟨hi, hxi⟩ := List.getElem?_eq_some_iff.mp hx
      have hsplit : sts = sts.take i ++ x :: sts.drop (i + 1) := by rw [← hxi, ← List.drop_eq_getElem_cons hi, List.take_append_drop]
      have next : (elig tk x = true → look row x = none) → Q .next (upd ρ 4 (some (.str x))) σ' := fun h => by
        refine (hQ (upd ρ 4 (some (.str x))) σ' ⟨rfl, r1, r2, r3, ?_⟩ trivial).1
        rw [hsts, List.take_add_one, hx, List.filter_append, List.findSome?_append, hno]
        by_cases he : elig tk x = true
        · simp [he, h he]
        · simp [he]
      have ret : ∀ g, elig tk x = true → look row x = some g → Q (.ret (.tup (intsA g))) (upd ρ 4 (some (.str x))) σ' := fun g he hl => by
        refine hR _ _ _ ⟨rfl, ?_⟩
        congr 2
        unfold foldRow
        have : (stsOf true tk).findSome? (fun s => look row s) = some g := by
          rw [← elig_sts, hsts, hsplit, List.filter_append, List.findSome?_append, hno, List.filter_cons_of_pos he]
          simp [hl]
        rw [this]
      simp only [Sx.ite, Bx.and, Bx.or, Bx.cmp, Bx.val, Ex.var, Ex.const]
      refine ⟨_, rfl, _, r3, _, _, _, rfl, rfl, ey, _, rfl, fun hin => ?_, fun hin => ?_⟩
      · rw [look_rowA] at hin
        cases hl : look row x with
        | none => rw [hl] at hin; exact absurd hin (by simp)
        | some g =>
          have it : ∀ e : elig tk x = true, ∃ v, upd ρ 4 (some (.str x)) 3 = some v ∧ ∃ v_1, upd ρ 4 (some (.str x)) 4 = some v_1 ∧ gItem v v_1 σ' fun v σ => Q (.ret v) (upd ρ 4 (some (.str x))) σ := fun e => by
            refine ⟨_, r3, _, rfl, ?_⟩
            first | refine gItemL (ey) ?_ | refine gItemS (ey) ?_ | refine gItemI (ey) ?_
            exact ⟨.tup (intsA g), by rw [look_rowA, hl]; rfl, ret g e hl⟩
          refine ⟨_, r1, tk, rfl, fun ht => ⟨fun zz1 => it (by rw [ht]; rfl), fun h => nomatch h⟩, fun hf => ?_⟩
          refine ⟨_, rfl, .inl ⟨_, _, rfl, rfl, _, rfl, fun h => ?_, fun h => ?_⟩⟩
          · exact it (by unfold elig; rw [hf]; exact h)
          · refine next fun e => ?_
            unfold elig at e
            rw [hf] at e
            have e' : (x != "T") = true := e
            rw [show (x != "T") = false from h] at e'
            cases e'
      · rw [look_rowA] at hin
        have hl : look row x = none := by
          cases h : look row x with
          | none => rfl
          | some g => rw [h] at hin; exact absurd hin (by simp)
        exact ⟨fun h => (nomatch h), fun zz1 => next fun zz1 => hl⟩
  · rintro ρ σ' ⟨rfl, r1, r2, r3, hno⟩
    refine ⟨_, r2, ?_⟩
    rw [List.length_map] at hno
    have : (["T", "F", "C"] : List Str).take (["T", "F", "C"] : List Str).length = (["T", "F", "C"] : List Str) := List.take_length
    rw [this, elig_sts] at hno
    have e : foldRow row (stsOf true tk) c = [c] := by unfold foldRow; rw [hno]
    rw [e] at q1
    exact q1
  · rintro w ρ σ' ⟨rfl, rfl⟩
    exact q1
end Mine
end

noncomputable section
open PySem PySem.W PyProof.Rows PySem.Calls PySem.Spec
set_option Elab.async false
set_option maxRecDepth 100000
set_option maxHeartbeats 0
set_option linter.all false
namespace Mine

noncomputable def knownL : List Int := [46, 65, 73, 83, 84, 97, 105, 115, 116, 223, 304, 305, 383, 775, 7296, 7304, 7838, 42570, 64261]
noncomputable def lettersL : List Int := [115, 97, 116, 105, 305, 775]

theorem known_rep {p : Params} {h0 : Heap} (KX : (hd.heap_39 p).In h0) : ∀ (n : Nat) (μ : Nat → Addr) (h : Heap), (∀ a o, h0.get? a = some o → h.get? a = some o) → VRep h0 n μ h (.tup (intsA knownL)) (.ref 254) := fun n μ h hb =>
  .tup _ 254 _ _ (hb _ _ (KX _ _ rfl)) (reps_of_ints (by repeat constructor))
theorem letters_rep {p : Params} {h0 : Heap} (KX : (hd.heap_39 p).In h0) : ∀ (n : Nat) (μ : Nat → Addr) (h : Heap), (∀ a o, h0.get? a = some o → h.get? a = some o) → VRep h0 n μ h (.tup (intsA lettersL)) (.ref 253) := fun n μ h hb =>
  .tup _ 253 _ _ (hb _ _ (KX _ _ rfl)) (reps_of_ints (by repeat constructor))

noncomputable def alikeP (T : Told) (tk : Bool) (goal : List Int) : List Int := knownL.filter fun c => decide (foldT T (stsOf true tk) c = goal)
noncomputable def gAlike : Fs := fun vs σ P => ∃ lt T tk goal, vs = [.ref lt, .bool tk, .tup (intsA goal)] ∧ ToldR σ lt T ∧ ∀ σ' r, Keeps NoW σ σ' → σ.n ≤ r → σ'.obj r = some (.list (intsA (alikeP T tk goal))) → P (.ref r) σ'

theorem alike_code {C : Ctx} {p : Params} (hC : C.K = hd.heap_39 p) : CodeN C 2 (.ref 278) gAlike := by
  refine forC (Q := fun C => CodeN C 2 (.ref 278) gAlike) ?_ hC
  clear hC
  intro prog w h0 p pp loose mg mb KX T
  have hC : (Ctx.mk prog w h0 (hd.heap_39 p) pp loose mg mb KX T).K = hd.heap_39 p := rfl
  have h_law_fold := lawfold_code hC
  clear hC
  have glob_law_known := known_rep KX
  refine CodeN.weakenW (codeDef (defOk_of (names := ["told", "is_turkic", "goal"]) (vars := [("told", 0, true), ("is_turkic", 1, true), ("goal", 2, true)]) rfl rfl rfl rfl rfl rfl rfl (bind3 (fun zz1 zz2 zz3 => rfl)))
    (simOne (simReturn (simComp1 (compOk_of (vars := [("code", 40, false), ("told", 0, true), ("is_turkic", 1, true), ("goal", 2, true)]) (sl := [40]) rfl) (simI (simGlob rfl rfl glob_law_known) srcOk_seq) m0 (simTests_one (simB_cmp (simCallFn rfl rfl rfl (.cons (simVar m1) (.cons (simVar m2) (.cons (simVar m0) .nil (fun zz1 => rfl)) (fun zz1 => rfl)) (fun zz1 => rfl)) h_law_fold.simN) (simVar m3) sim_eq)) (simVar m0))))) ?_
  rintro vs σ P wf ⟨lt, T, tk, goal, rfl, R, q⟩
  refine ⟨rfl, ?_⟩
  have K1 : Keeps NoW σ (σ.push (.list [])) := (Keeps.refl wf).pushI
  refine ⟨trivial, ?_⟩
  refine compL_all _ (fun i ρ σ' => Keeps NoW σ σ' ∧ ρ 0 = some (.ref lt) ∧ ρ 1 = some (.bool tk) ∧ ρ 2 = some (.tup (intsA goal)) ∧ σ'.obj σ.n = some (.list (intsA ((knownL.take i).filter fun c => decide (foldT T (stsOf true tk) c = goal))))) ?_ ?_ ⟨K1, rfl, rfl, rfl, push_new⟩
  · rintro i v ρ σ' Q Q2 hv ⟨K, r0, r1, r2, el⟩ hf ht hn2
    rw [List.getElem?_map] at hv
    cases hx : knownL[i]? with
    | none => rw [hx] at hv; cases hv
    | some c =>
      rw [hx] at hv; cases hv
      refine ⟨_, r0, _, r1, _, rfl, lt, T, tk, c, rfl, R.keep0 wf K, fun σ2 K2 => ?_⟩
      have el2 := K2.mono' K.wf _ _ el
      refine ⟨_, r2, _, EqR.tints σ2 _ goal, _, rfl, ?_⟩
      cases hd : decide (foldT T (stsOf true tk) c = goal) with
      | false =>
        refine hf σ2 ⟨K.trans K2, r0, r1, r2, ?_⟩ trivial
        rw [List.take_add_one, hx, List.filter_append, el2]
        simp only [Option.toList]
        rw [List.filter_cons_of_neg (by rw [hd]; simp)]; simp
      | true =>
        refine ht σ2 ⟨_, rfl, _, el2, ?_, ?_⟩
        · rw [List.length_map]
          refine Nat.le_trans (List.length_filter_le _ _) ?_
          rw [List.length_take]
          have : knownL.length = 19 := rfl
          (first | lia | omega)
        · have hlt : σ.n < σ2.n := K2.wf _ _ el2
          refine hn2 _ _ ⟨(K.trans K2).setI hlt fun h => absurd h (Nat.lt_irrefl _), r0, r1, r2, ?_⟩ trivial
          rw [set_self, List.take_add_one, hx, List.filter_append]
          simp only [Option.toList]
          rw [List.filter_cons_of_pos (by rw [hd])]; simp
  · rintro ρ σ' ⟨K, r0, r1, r2, el⟩
    refine q σ' σ.n K (Nat.le_refl _) ?_
    rw [List.length_map, List.take_length] at el
    exact el
end Mine
end

noncomputable section
open PySem PySem.W PyProof.Rows PySem.Calls PySem.Spec
set_option Elab.async false
set_option maxRecDepth 100000
set_option maxHeartbeats 0
set_option linter.all false
namespace Mine

noncomputable def textsP (T : Told) (tk : Bool) : List Int → List (List Int)
  | [] => [[]]
  | c :: r => (alikeP T tk [c]).flatMap fun x => (textsP T tk r).map fun y => x :: y
theorem alike_len (T : Told) (tk : Bool) (g : List Int) : (alikeP T tk g).length ≤ 19 := Nat.le_trans (List.length_filter_le _ _) (Nat.le_of_eq rfl)
theorem flat_len {α β : Type} (l : List α) (f : α → List β) (b : Nat) (h : ∀ x ∈ l, (f x).length ≤ b) : (l.flatMap f).length ≤ l.length * b := by
  induction l with
  | nil => simp
  | cons a r ih =>
    have h1 := h a (.head _)
    have h2 := ih fun x hx => h x (.tail _ hx)
    simp only [List.flatMap_cons, List.length_append, List.length_cons, Nat.succ_mul]
    (first | lia | omega)
theorem texts_len (T : Told) (tk : Bool) : ∀ goal, (textsP T tk goal).length ≤ 19 ^ goal.length
  | [] => Nat.le_refl _
  | c :: r => by
    have ih := texts_len T tk r
    have h1 := flat_len (alikeP T tk [c]) (fun x => (textsP T tk r).map fun y => x :: y) (19 ^ r.length) (fun x zz1 => by simpa using ih)
    have h2 := alike_len T tk [c]
    refine Nat.le_trans h1 ?_
    rw [List.length_cons, Nat.pow_succ, Nat.mul_comm (19 ^ r.length)]
    exact Nat.mul_le_mul_right _ h2
theorem texts_rowlen (T : Told) (tk : Bool) : ∀ goal, ∀ y ∈ textsP T tk goal, y.length = goal.length
  | [], y, h => by simp [textsP] at h; subst h; rfl
  | c :: r, y, h => by
    obtain ⟨x, _, h⟩ := List.mem_flatMap.mp h
    obtain ⟨z, hz, rfl⟩ := List.mem_map.mp h
    simp [texts_rowlen T tk r z hz]

theorem i_cutTup {xs ys : List AV} {lo hi : AV} {a b : Option Int} {σ : St} {P : AV → St → Prop} (pa : PartA lo a) (pb : PartA hi b) (hc : cut xs a b = ys) (hz : xs.length ≤ 1000000) (q : P (.tup ys) σ) : gSlice (.tup xs) lo hi σ P := by subst hc; exact ⟨a, b, pa, pb, hz, q⟩

noncomputable def textsPost (T : Told) (tk : Bool) (goal : List Int) (σ : St) (P : AV → St → Prop) : Prop :=
  ∀ σ' r vs, Keeps NoW σ σ' → σ.n ≤ r → σ'.obj r = some (.list vs) → RowsQ (fun l => σ.n ≤ l) σ' vs (textsP T tk goal) → P (.ref r) σ'
noncomputable def gTexts (n : Nat) : Fs := fun vs σ P => ∃ lt T tk goal, vs = [.ref lt, .bool tk, .tup (intsA goal)] ∧ ToldR σ lt T ∧ goal.length ≤ n ∧ textsPost T tk goal σ P

theorem texts_gen {C : Ctx} {p : Params} (hC : C.K = hd.heap_39 p) {d : Nat} (hd2 : 2 ≤ d) {G : Fs} (h_law_texts : CodeN C d (.ref 283) G) :
    CodeN C (d + 1) (.ref 283) (fun vs σ P => ∃ lt T tk goal, vs = [.ref lt, .bool tk, .tup (intsA goal)] ∧ ToldR σ lt T ∧ goal.length ≤ 3 ∧ textsPost T tk goal σ P ∧ (goal ≠ [] → ∀ σ P, ToldR σ lt T → textsPost T tk goal.tail σ P → G [.ref lt, .bool tk, .tup (intsA goal.tail)] σ P)) := by
  have h_law_alike := (alike_code hC).mono hd2
  obtain ⟨prog, w, h0, K, pp, loose, mg, mb, KX, T⟩ := C
  dsimp only at hC
  subst hC
  refine CodeN.weakenW (codeDef (defOk_of (names := ["told", "is_turkic", "goal"]) (vars := [("told", 0, false), ("is_turkic", 1, false), ("goal", 2, false), ("rests", 3, true)]) rfl rfl rfl rfl rfl rfl rfl (bind3 (fun zz1 zz2 zz3 => rfl)))
    (simCons (simIf (simB_cmp (simVar m2) (simTup .nil) sim_eq) (simOne (simReturn (simList (.cons (simList .nil) .nil (fun zz1 => rfl))))) simNil)
    (simCons (simAssign (simCallFn rfl rfl rfl (.cons (simVar m0) (.cons (simVar m1) (.cons (simSlice (simVar m2) (simP_some simConst_int) simP_none) .nil (fun zz1 => rfl)) (fun zz1 => rfl)) (fun zz1 => rfl)) h_law_texts.simN) m3)
    (simOne (simReturn (simComp2 (compOk_of (vars := [("code", 40, false), ("rest", 41, false), ("rests", 3, true)]) (sl := [40, 41]) rfl) (simI (simCallFn rfl rfl rfl (.cons (simVar m0) (.cons (simVar m1) (.cons (simSlice (simVar m2) simP_none (simP_some simConst_int)) .nil (fun zz1 => rfl)) (fun zz1 => rfl)) (fun zz1 => rfl)) h_law_alike.simN) srcOk_seq) m0 simTests_nil (simI (simVar m2) srcOk_seq) m1 simTests_nil (simBin (simList (.cons (simVar m0) .nil (fun zz1 => rfl))) (simVar m1) sim_add))))))) ?_
  rintro vs σ P wf ⟨lt, T, tk, goal, rfl, R, hz, q, hG⟩
  refine ⟨rfl, ?_⟩
  refine ⟨_, rfl, _, EqR.tints σ goal [], _, rfl, fun ht => ?_, fun hf => ?_⟩
  · have hg : goal = [] := of_decide_eq_true ht
    subst hg
    have K1 : Keeps NoW σ (σ.push (.list [])) := (Keeps.refl wf).pushI
    exact q _ (σ.n + 1) _ K1.pushI (Nat.le_succ _) push_new (.cons σ.n [] [] [] (Nat.le_refl _) (push_old K1.wf push_new) .nil)
  · have hg : goal ≠ [] := of_decide_eq_false hf
    obtain ⟨c, r, rfl⟩ := List.exists_cons_of_ne_nil hg
    have hz' : r.length ≤ 2 := by simp at hz; (first | lia | omega)
    have c1 : cut (intsA (c :: r)) (some 1) none = intsA r := by
      have := cut_drop (intsA (c :: r)) 1 (by simp)
      exact this
    have c2 : cut (intsA (c :: r)) none (some 1) = intsA [c] := by
      have := cut_take (intsA (c :: r)) 1 (by simp)
      exact this
    refine ⟨_, rfl, _, rfl, _, rfl, i_cutTup (.int 1) .none c1 (by simp; (first | lia | omega)) ?_⟩
    refine hG (by simp) _ _ R ?_
    intro σ1 rr rs K1 hrr er RR
    refine ⟨_, rfl, _, rfl, _, rfl, i_cutTup .none (.int 1) c2 (by simp; (first | lia | omega)) ?_⟩
    refine ⟨lt, T, tk, [c], rfl, R.keep0 wf K1, ?_⟩
    intro σ2 ra K2 hra ea
    refine gSeqL ea ?_
    have K12 := K1.trans K2
    have K3 : Keeps NoW σ2 (σ2.push (.list [])) := (Keeps.refl K2.wf).pushI
    have hra2 : ra < σ2.n := K2.wf _ _ ea
    refine ⟨push_old K2.wf ea, ?_⟩
    have er2 := K2.mono' K1.wf _ _ er
    have hrr2 : rr < σ2.n := K2.wf _ _ er2
    have RR2 : RowsQ (fun l => l < σ2.n) σ2 rs (textsP T tk r) := RR.mono (fun l hl zz1 => Nat.lt_of_lt_of_le hl K2.le) K1.wf fun l o zz1 e => K2.mono' K1.wf _ _ e
    have htl : (textsP T tk r).length ≤ 361 := by
      have := texts_len T tk r
      have h3 : 19 ^ r.length ≤ 19 ^ 2 := Nat.pow_le_pow_right (by decide) hz'
      (first | lia | omega)
    have hal := alike_len T tk [c]
    refine compL_all _ (fun i ρ σ' => Keeps NoW σ2 σ' ∧ ρ 3 = some (.ref rr) ∧ ∃ ws, σ'.obj σ2.n = some (.list ws) ∧ RowsQ (fun l => σ2.n < l) σ' ws (((alikeP T tk [c]).take i).flatMap fun x => (textsP T tk r).map fun y => x :: y)) ?_ ?_
      ⟨K3, rfl, [], push_new, .nil⟩
    · rintro i v ρ σ' Q Q2 hv ⟨K, r3, ws, ew, RW⟩ hf2 ht2 hn2
      rw [List.getElem?_map] at hv
      cases hx : (alikeP T tk [c])[i]? with
      | none => rw [hx] at hv; cases hv
      | some x =>
        rw [hx] at hv; cases hv
        refine ht2 σ' ?_
        have er' := K.mono' K2.wf _ _ er2
        unfold nest
        refine ⟨_, r3, ?_⟩
        refine gSeqL er' ?_
        refine compL_all _ (fun j ρ3 σ3 => Keeps NoW σ2 σ3 ∧ σ'.n ≤ σ3.n ∧ ρ3 3 = some (.ref rr) ∧ ρ3 40 = some (.int x) ∧ ∃ ws, σ3.obj σ2.n = some (.list ws) ∧ RowsQ (fun l => σ2.n < l) σ3 ws ((((alikeP T tk [c]).take i).flatMap fun x => (textsP T tk r).map fun y => x :: y) ++ ((textsP T tk r).take j).map fun y => x :: y)) ?_ ?_
          ⟨K, Nat.le_refl _, r3, rfl, ws, ew, by simpa using RW⟩
        · rintro j v3 ρ3 σ3 Q3 Q4 hv3 ⟨K3', hn3, s3, s40, ws3, ew3, RW3⟩ hf3 ht3 hn4
          obtain ⟨l, ns, rfl, hns, hl, el⟩ := RR2.get hv3
          refine ht3 σ3 ?_
          have el3 := K3'.mono' K2.wf _ _ el
          have K5 : Keeps NoW σ3 (σ3.push (.list [.int x])) := (Keeps.refl K3'.wf).pushI
          have hlt : σ2.n < σ3.n := K3'.wf _ _ ew3
          have hnl : ns.length ≤ 2 := by
            have := texts_rowlen T tk r ns (List.mem_of_getElem? hns)
            (first | lia | omega)
          have hws : ws3.length ≤ 100000 := by
            rw [RW3.length]
            have h1 := flat_len ((alikeP T tk [c]).take i) (fun x => (textsP T tk r).map fun y => x :: y) 361 (fun x zz1 => by simpa using htl)
            have h2 := Nat.le_trans (List.length_take_le' i (alikeP T tk [c])) hal
            have h5 := Nat.le_trans (List.length_take_le' j (textsP T tk r)) htl
            rw [List.length_append, List.length_map]
            exact Nat.le_trans (Nat.add_le_add (Nat.le_trans h1 (Nat.mul_le_mul_right 361 h2)) h5) (by decide)
          refine ⟨_, s40, _, rfl, .inr (.inl ⟨σ3.n, l, [.int x], intsA ns, rfl, rfl, push_new, push_old K3'.wf el3, by simp; (first | lia | omega), ?_⟩)⟩
          have K6 : Keeps NoW σ3 ((σ3.push (.list [.int x])).push (.list ([.int x] ++ intsA ns))) := K5.pushI
          have ew6 := K6.mono' K3'.wf _ _ ew3
          have hne : ∀ y, y ≠ σ2.n → ∀ z, ((σ3.push (.list [.int x])).push (.list ([.int x] ++ intsA ns))).obj y = some z → (((σ3.push (.list [.int x])).push (.list ([.int x] ++ intsA ns))).set σ2.n (.list (ws3 ++ [.ref (σ3.n + 1)]))).obj y = some z := fun y hy z e => set_other e hy
          refine ⟨ws3, ew6, by (first | lia | omega), ?_⟩
          refine hn4 _ _ ⟨K3'.pushI.pushI.setI (by show σ2.n < σ3.n + 1 + 1; (first | lia | omega)) (fun h => absurd h (Nat.lt_irrefl _)), ?_, s3, s40, _, set_self, ?_⟩ (hne _ (by (first | lia | omega)) _ (K6.mono' K3'.wf _ _ (K3'.mono' K2.wf _ _ er2)))
          · show σ'.n ≤ σ3.n + 1 + 1; (first | lia | omega)
          · rw [List.take_add_one, hns, List.map_append, ← List.append_assoc]
            refine RowsQ.app (RW3.mono (fun zz1 zz2 h => h) K3'.wf fun y z hy e => hne y (Nat.ne_of_gt hy) z (K6.mono' K3'.wf _ _ e)) ?_
            refine .cons (σ3.n + 1) [] _ [] (by (first | lia | omega)) (hne _ (by (first | lia | omega)) _ ?_) .nil
            have : ((σ3.push (.list [.int x])).push (.list ([.int x] ++ intsA ns))).obj (σ3.n + 1) = some (.list ([.int x] ++ intsA ns)) := push_new
            rw [this]; rfl
        · rintro ρ3 σ3 ⟨K3', hn3, s3, s40, ws3, ew3, RW3⟩
          refine hn2 ρ3 σ3 ⟨K3', s3, ws3, ew3, ?_⟩ (K3'.mono' K2.wf _ _ ea)
          rw [RR2.length, List.take_length] at RW3
          rw [List.take_add_one, hx, List.flatMap_append]
          simpa using RW3
    · rintro ρ σ' ⟨K, r3, ws, ew, RW⟩
      rw [List.length_map, List.take_length] at RW
      exact q σ' σ2.n ws (K12.trans K) K12.le ew (RW.mono (fun l zz1 h => by have := K12.le; (first | lia | omega)) K.wf fun zz1 zz2 zz3 e => e)

theorem texts_code {C : Ctx} {p : Params} (hC : C.K = hd.heap_39 p) : ∀ n, n ≤ 3 → CodeN C (3 + n) (.ref 283) (gTexts n) := by
  intro n
  induction n with
  | zero =>
    intro _
    have hF : CodeN C 2 (.ref 283) (fun zz1 zz2 zz3 => False) := fun zz1 zz2 zz3 zz4 zz5 zz6 zz7 zz8 zz9 zz10 zz11 g zz12 => g.elim
    refine (texts_gen hC (Nat.le_refl _) hF).weaken ?_
    rintro vs σ P ⟨lt, T, tk, goal, rfl, R, hz, q⟩
    have hg : goal = [] := List.eq_nil_of_length_eq_zero (by (first | lia | omega))
    subst hg
    exact ⟨lt, T, tk, [], rfl, R, by simp, q, fun h => absurd rfl h⟩
  | succ n ih =>
    intro hn
    refine (texts_gen hC (d := 3 + n) (by (first | lia | omega)) (ih (by (first | lia | omega)))).weaken ?_
    rintro vs σ P ⟨lt, T, tk, goal, rfl, R, hz, q⟩
    refine ⟨lt, T, tk, goal, rfl, R, by (first | lia | omega), q, fun hne σ1 P1 R1 q1 => ⟨lt, T, tk, goal.tail, rfl, R1, ?_, q1⟩⟩
    rw [List.length_tail]; (first | lia | omega)
end Mine
end

noncomputable section
open PySem PySem.W PyProof.Rows PySem.Calls PySem.Spec
set_option Elab.async false
set_option maxRecDepth 100000
set_option maxHeartbeats 0
set_option linter.all false
namespace Mine

noncomputable abbrev WW (lw sp : Nat) : Nat → Prop := fun y => y = lw ∨ y = sp
theorem ToldR.wheel {σ σ' lt T lw sp} (x : ToldR σ lt T) (wf : WF σ) (W : Wheel σ lw sp) (K : Keeps (WW lw sp) σ σ') : ToldR σ' lt T := by
  obtain ⟨r, ns, e1, e2, _⟩ := W.ex
  refine ⟨K.at wf x.at_ fun h => ?_, fun t ht => K.at wf (x.rows t ht) fun h => ?_⟩
  · rcases h with h | h
    · exact obj_ne x.at_ e1 (by simp) h
    · exact obj_ne x.at_ e2 (by simp) h
  · rcases h with h | h
    · refine obj_ne (x.rows t ht) e1 ?_ h
      intro he
      injection he with he
      cases hr : t.2.2 with
      | nil => rw [hr] at he; cases he
      | cons a b => rw [hr] at he; simp [rowA] at he
    · exact obj_ne (x.rows t ht) e2 (by simp) h

noncomputable def gExch : Fs := fun vs σ P => ∃ lw sp lt T tk lg, ∃ gs : List (List Int), vs = [.ref lw, .ref lt, .bool tk, .ref lg] ∧ Wheel σ lw sp ∧ ToldR σ lt T ∧ σ.obj lg = some (.list (gs.map fun g => .tup (intsA g))) ∧ (∀ g ∈ gs, alikeP T tk g ≠ []) ∧ gs.length ≤ 1000 ∧
  ∀ σ' r found, Keeps (WW lw sp) σ σ' → Wheel σ' lw sp → σ.n ≤ r → σ'.obj r = some (.list (intsA found)) → (∀ x ∈ found, x ∈ knownL) → found.length = gs.length → P (.ref r) σ'

theorem exch_code {C : Ctx} {p : Params} (hC : C.K = hd.heap_39 p) : CodeN C 3 (.ref 290) gExch := by
  refine forC (Q := fun C => CodeN C 3 (.ref 290) gExch) ?_ hC
  clear hC
  intro prog w h0 p pp loose mg mb KX T
  have hC : (Ctx.mk prog w h0 (hd.heap_39 p) pp loose mg mb KX T).K = hd.heap_39 p := rfl
  have h_law_alike := alike_code hC
  have h_law_turn := (turn_code hC).mono (show 1 ≤ 2 by decide)
  clear hC
  refine CodeN.weakenW (codeDef (defOk_of (names := ["wheel", "told", "is_turkic", "goals"]) (vars := [("wheel", 0, false), ("told", 1, false), ("is_turkic", 2, false), ("goals", 3, false), ("found", 4, false), ("goal", 5, false), ("some", 6, false)]) rfl rfl rfl rfl rfl rfl rfl (bind4 (fun zz1 zz2 zz3 zz4 => rfl)))
    (simCons (simAssign (simList .nil) m4)
    (simCons (simFor (simI (simVar m3) srcOk_seq) (simT_name m5) (simCons (simAssign (simCallFn rfl rfl rfl (.cons (simVar m1) (.cons (simVar m2) (.cons (simVar m5) .nil (fun zz1 => rfl)) (fun zz1 => rfl)) (fun zz1 => rfl)) h_law_alike.simN) m6)
    (simOne (simExpr (simAppend (simVar m4) (.cons (simSub (simVar m6) (simCallFn rfl rfl rfl (.cons (simVar m0) (.cons (simCallB rfl rfl rfl (by decide) (.cons (simVar m6) .nil (fun zz1 => rfl)) simN_len) .nil (fun zz1 => rfl)) (fun zz1 => rfl)) h_law_turn.simN)) .nil (fun zz1 => rfl)))))))
    (simOne (simReturn (simVar m4)))))) ?_
  rintro vs σ P wf ⟨lw, sp, lt, T, tk, lg, gs, rfl, W, R, eg, hne, hz, q⟩
  refine ⟨rfl, ?_⟩
  have K1 : Keeps (WW lw sp) σ (σ.push (.list [])) := (Keeps.refl wf).pushI
  have W1 : Wheel (σ.push (.list [])) lw sp := by
    obtain ⟨r, ns, e1, e2, h⟩ := W.ex
    exact ⟨r, ns, push_old wf e1, push_old wf e2, h⟩
  refine ⟨_, rfl, ?_⟩
  refine gSeqL (push_old wf eg) ?_
  refine forL_all _ (fun i ρ σ' => Keeps (WW lw sp) σ σ' ∧ Wheel σ' lw sp ∧ ToldR σ' lt T ∧ ρ 0 = some (.ref lw) ∧ ρ 1 = some (.ref lt) ∧ ρ 2 = some (.bool tk) ∧ ρ 4 = some (.ref σ.n) ∧ ∃ found, σ'.obj σ.n = some (.list (intsA found)) ∧ (∀ x ∈ found, x ∈ knownL) ∧ found.length = i) (fun zz1 zz2 zz3 => False) ?_ ?_ (fun zz1 zz2 zz3 h => h.elim)
    ⟨K1, W1, R.keep0 wf (Keeps.refl wf).pushI, rfl, rfl, rfl, rfl, [], push_new, by simp, rfl⟩
  · rintro i v ρ σ' Q hv ⟨K, W', R', r0, r1, r2, r4, found, ef, hfk, hfl⟩ hQ hR
    rw [List.getElem?_map] at hv
    cases hx : gs[i]? with
    | none => rw [hx] at hv; cases hv
    | some g =>
      rw [hx] at hv; cases hv
      have hi := (List.getElem?_eq_some_iff.mp hx).1
      refine ⟨_, r1, _, r2, _, rfl, lt, T, tk, g, rfl, R', ?_⟩
      intro σ2 ra K2 hra ea
      have hne' := hne g (List.mem_of_getElem? hx)
      have hal := alike_len T tk g
      have hpos : 0 < (alikeP T tk g).length := List.length_pos_iff.mpr hne'
      have ef2 := K2.mono' K.wf _ _ ef
      have W2 : Wheel σ2 lw sp := by
        obtain ⟨r, ns, e1, e2, h⟩ := W'.ex
        exact ⟨r, ns, K2.mono' K.wf _ _ e1, K2.mono' K.wf _ _ e2, h⟩
      refine ⟨_, r4, ⟨_, _, rfl, ef2⟩, _, rfl, _, r0, _, rfl, _, (alikeP T tk g).length, rfl, by simp [lenA, ea], by (first | lia | omega), ?_⟩
      refine ⟨lw, sp, _, rfl, W2, by (first | lia | omega), by (first | lia | omega), ?_⟩
      intro σ3 t K3 W3 ht0 htl
      have hwl : ∀ y, WW lw sp y → y < σ.n := fun y h => by
        obtain ⟨r, ns, e1, e2, _⟩ := W.ex
        rcases h with rfl | rfl
        · exact wf _ _ e1
        · exact wf _ _ e2
      have hra' : σ'.n ≤ ra := hra
      have hσ' : σ.n < σ'.n := K.wf _ _ ef
      have ea3 := K3.at K2.wf ea fun h => absurd (hwl _ h) (by (first | lia | omega))
      have ef3 := K3.at K2.wf ef2 fun h => absurd (hwl _ h) (Nat.lt_irrefl _)
      first | refine gItemL (ea3) ?_ | refine gItemS (ea3) ?_ | refine gItemI (ea3) ?_
      have htn : t.toNat < (alikeP T tk g).length := by (first | lia | omega)
      refine ⟨ht0, by (first | lia | omega), .int (alikeP T tk g)[t.toNat], by rw [List.getElem?_map, List.getElem?_eq_getElem htn]; rfl, σ.n, _, _, rfl, ef3, by simp; (first | lia | omega), rfl, ?_⟩
      have hlt3 : σ.n < σ3.n := K3.wf _ _ ef3
      have KA : Keeps (WW lw sp) σ (σ3.set σ.n (.list (intsA found ++ [.int (alikeP T tk g)[t.toNat]]))) := ((K.trans K2.off).trans K3).setI hlt3 fun h => absurd h (Nat.lt_irrefl _)
      have WA : Wheel (σ3.set σ.n (.list (intsA found ++ [.int (alikeP T tk g)[t.toNat]]))) lw sp := by
        obtain ⟨r, ns, e1, e2, h⟩ := W3.ex
        exact ⟨r, ns, set_other e1 (Nat.ne_of_lt (hwl _ (.inl rfl))), set_other e2 (Nat.ne_of_lt (hwl _ (.inr rfl))), h⟩
      refine (hQ (upd (upd ρ 5 (some (.tup (intsA g)))) 6 (some (.ref ra))) _ ⟨KA, WA, R.wheel wf W KA, r0, r1, r2, r4, found ++ [(alikeP T tk g)[t.toNat]], by rw [set_self]; simp, ?_, by simp [hfl]⟩ ?_).1
      · intro x hx
        rcases List.mem_append.mp hx with hx | hx
        · exact hfk x hx
        · simp at hx
          have := List.getElem_mem htn
          rw [← hx] at this
          exact (List.mem_filter.mp this).1
      · refine KA.at wf eg fun h => ?_
        obtain ⟨r, ns, e1, e2, _⟩ := W.ex
        rcases h with h | h
        · exact obj_ne eg e1 (by simp) h
        · refine obj_ne eg e2 ?_ h
          intro he
          injection he with he
          have h3 := congrArg (fun l => l[i]?) he
          simp only [List.getElem?_map, hx, Option.map_some] at h3
          cases h4 : ns[i]? with
          | none => rw [h4] at h3; cases h3
          | some z => rw [h4] at h3; cases h3
  · rintro ρ σ' ⟨K, W', R', r0, r1, r2, r4, found, ef, hfk, hfl⟩
    rw [List.length_map] at hfl
    exact ⟨_, r4, q σ' σ.n found K W' (Nat.le_refl _) ef hfk hfl⟩
end Mine
end

noncomputable section
open PySem PySem.W PyProof.Rows PySem.Calls PySem.Spec
set_option Elab.async false
set_option maxRecDepth 100000
set_option maxHeartbeats 0
set_option linter.all false
namespace Mine

theorem compL_filter {k la : Nat} {ft : FB} {ok : St → Prop} {P : Rho → St → Prop} (xs : List Int) (pr : Int → Bool) {ρ : Rho} {σ : St} (wf : WF σ) (hla : σ.obj la = some (.list [])) (hlen : xs.length ≤ 1000)
    (test : ∀ x ∈ xs, ∀ ρ' σ' (Q : Bool → St → Prop), ρ' k = some (.int x) → (∀ j, j ≠ k → ρ' j = ρ j) → Keeps (fun y => y = la) σ σ' → (∀ σ2, Keeps NoW σ' σ2 → Q (pr x) σ2) → ft ρ' σ' Q)
    (hok : ∀ σ', Keeps (fun y => y = la) σ σ' → ok σ') (fin : ∀ ρ' σ', Keeps (fun y => y = la) σ σ' → σ'.obj la = some (.list (intsA (xs.filter pr))) → P ρ' σ') :
    compL k ft (emit la (Ex.var k)) ok (intsA xs) ρ σ P := by
  have hl := wf _ _ hla
  refine compL_all _ (fun i ρ' σ' => Keeps (fun y => y = la) σ σ' ∧ (∀ j, j ≠ k → ρ' j = ρ j) ∧ σ'.obj la = some (.list (intsA ((xs.take i).filter pr)))) ?_ ?_ ⟨Keeps.refl wf, fun zz1 zz2 => rfl, hla⟩
  · rintro i v ρ' σ' Q Q2 hv ⟨K, hρ, el⟩ hf ht hn2
    rw [List.getElem?_map] at hv
    cases hx : xs[i]? with
    | none => rw [hx] at hv; cases hv
    | some x =>
      rw [hx] at hv; cases hv
      have hρ2 : ∀ j, j ≠ k → upd ρ' k (some (.int x)) j = ρ j := fun j hj => by simp only [upd, if_neg hj]; exact hρ j hj
      refine test x (List.mem_of_getElem? hx) _ σ' Q (by simp [upd]) hρ2 K fun σ2 K2 => ?_
      have el2 := K2.mono' K.wf _ _ el
      cases hp : pr x with
      | false =>
        refine hf σ2 ⟨K.trans K2.off, hρ2, ?_⟩ (hok _ (K.trans K2.off))
        rw [List.take_add_one, hx, List.filter_append, el2]
        simp only [Option.toList]
        rw [List.filter_cons_of_neg (by rw [hp]; simp)]; simp
      | true =>
        refine ht σ2 ⟨.int x, by simp [upd], _, el2, ?_, ?_⟩
        · rw [List.length_map]
          refine Nat.le_trans (List.length_filter_le _ _) ?_
          rw [List.length_take]; (first | lia | omega)
        · have KA := (K.trans K2.off).setI (o := .list (intsA ((xs.take i).filter pr) ++ [.int x])) (K2.wf _ _ el2) fun zz1 => rfl
          refine hn2 _ _ ⟨KA, hρ2, ?_⟩ (hok _ KA)
          rw [set_self, List.take_add_one, hx, List.filter_append]
          simp only [Option.toList]
          rw [List.filter_cons_of_pos (by rw [hp])]; simp
  · rintro ρ' σ' ⟨K, hρ, el⟩
    rw [List.length_map, List.take_length] at el
    exact fin ρ' σ' K el

theorem cut_mid (xs : List AV) (a b : Nat) (h : a ≤ b) (hb : b ≤ xs.length) : cut xs (some (a : Int)) (some (b : Int)) = (xs.drop a).take (b - a) := by
  unfold cut
  simp only [Option.elim, clipAt_nat, Nat.min_eq_left hb, Nat.min_eq_left (Nat.le_trans h hb)]

noncomputable def sizesP (un : List Int → List Int) (goal : List Int) (c : Int) (at_ : Nat) : List Int :=
  (([2, 3] : List Int).filter fun s => decide ((at_ : Int) + s ≤ goal.length)).filter fun s => (un ((goal.drop at_).take s.toNat)).any (· == c)
noncomputable def readP (wh : Int → List Int) (un : List Int → List Int) (goal : List Int) : Nat → List Int → Bool
  | at_, [] => decide (at_ = goal.length)
  | at_, c :: r => if at_ < goal.length ∧ (wh (goal.getD at_ 0)).any (· == c) = true then readP wh un goal (at_ + 1) r else
    match sizesP un goal c at_ with
    | [] => false
    | s :: _ => readP wh un goal (at_ + s.toNat) r

noncomputable def gRead : Fs := fun vs σ P => ∃ li T t cs tx gl text goal, vs = [.inst 199 li, .ref tx, .ref gl] ∧ IDX σ li T t cs ∧ σ.obj tx = some (.list (intsA text)) ∧ σ.obj gl = some (.list (intsA goal)) ∧ (∀ x ∈ goal, 0 ≤ x) ∧ text.length ≤ 1000 ∧ goal.length ≤ 1000 ∧
  ∀ σ', Keeps NoW σ σ' → P (.bool (readP (wholeP T t cs) (unfP T t cs) goal 0 text)) σ'

theorem read_code {C : Ctx} {p : Params} (hC : C.K = hd.heap_39 p) : CodeN C 6 (.ref 295) gRead := by
  refine forC (Q := fun C => CodeN C 6 (.ref 295) gRead) ?_ hC
  clear hC
  intro prog w h0 p pp loose mg mb KX T
  have hC : (Ctx.mk prog w h0 (hd.heap_39 p) pp loose mg mb KX T).K = hd.heap_39 p := rfl
  have h_FoldIndex_whole := whole_code hC
  have h_FoldIndex_unfolded := unf_code hC
  clear hC
  refine CodeN.weakenW (codeDef (defOk_of (names := ["index", "text", "goal"]) (vars := [("index", 0, true), ("text", 1, false), ("goal", 2, true), ("at", 3, true), ("code", 4, true), ("sizes", 5, false)]) rfl rfl rfl rfl rfl rfl rfl (bind3 (fun zz1 zz2 zz3 => rfl)))
    (simCons (simAssign simConst_int m3)
    (simCons (simFor (simI (simVar m1) srcOk_seq) (simT_name m4) (simCons (simIf (simB_and (simB_cmp (simVar m3) (simCallB rfl rfl rfl (by decide) (.cons (simVar m2) .nil (fun zz1 => rfl)) simN_len) sim_lt) (simB_cmp (simVar m4) (simMeth (simVar m0) (.cons (simSub (simVar m2) (simVar m3)) .nil (fun zz1 => rfl)) cls_FoldIndex rfl rfl rfl h_FoldIndex_whole.simN) sim_inI)) (simCons (simAssign (simBin (simVar m3) simConst_int sim_add) m3)
    (simOne simContinue)) simNil)
    (simCons (simUse1 (compOk_of (vars := [("size", 40, false), ("at", 3, true), ("goal", 2, true)]) (sl := [40]) rfl) (simI (simTup (.cons simConst_int (.cons simConst_int .nil (fun zz1 => rfl)) (fun zz1 => rfl))) srcOk_seq) m0 (simTests_one (simB_cmp (simBin (simVar m1) (simVar m0) sim_add) (simCallB rfl rfl rfl (by decide) (.cons (simVar m2) .nil (fun zz1 => rfl)) simN_len) sim_le)) (simVar m0) m5 (by intro env h; cases env; cases h; rfl))
    (simCons (simUse1 (compOk_of (vars := [("size", 40, false), ("code", 4, true), ("index", 0, true), ("goal", 2, true), ("at", 3, true)]) (sl := [40]) rfl) (simI (simVar m5) srcOk_seq) m0 (simTests_one (simB_cmp (simVar m1) (simMeth (simVar m2) (.cons (simCallT rfl rfl rfl (by decide) (.cons (simSlice (simVar m3) (simP_some (simVar m4)) (simP_some (simBin (simVar m4) (simVar m0) sim_add))) .nil (fun zz1 => rfl)) simN_tupOf) .nil (fun zz1 => rfl)) cls_FoldIndex rfl rfl rfl h_FoldIndex_unfolded.simN) sim_inI)) (simVar m0) m5 (by intro env h; cases env; cases h; rfl))
    (simCons (simIf (simB_cmp (simVar m5) (simList .nil) sim_eq) (simOne (simReturn simConst_bool)) simNil)
    (simOne (simAssign (simBin (simVar m3) (simSub (simVar m5) simConst_int) sim_add) m3)))))))
    (simOne (simReturn (simCmp (simVar m3) (simCallB rfl rfl rfl (by decide) (.cons (simVar m2) .nil (fun zz1 => rfl)) simN_len) sim_eq)))))) ?_
  rintro vs σ P wf ⟨li, T, t, cs, tx, gl, text, goal, rfl, X, et, eg, hg, hz, hz2, q⟩
  refine ⟨rfl, ?_⟩
  refine ⟨_, rfl, ?_⟩
  refine gSeqL (et) ?_
  refine forL_all _ (fun i ρ σ' => Keeps NoW σ σ' ∧ ρ 0 = some (.inst 199 li) ∧ ρ 2 = some (.ref gl) ∧ ∃ a : Nat, ρ 3 = some (.int (a : Int)) ∧ readP (wholeP T t cs) (unfP T t cs) goal a (text.drop i) = readP (wholeP T t cs) (unfP T t cs) goal 0 text)
    (fun w ρ σ' => w = .bool false ∧ Keeps NoW σ σ' ∧ readP (wholeP T t cs) (unfP T t cs) goal 0 text = false) ?_ ?_ ?_ ⟨Keeps.refl wf, rfl, rfl, 0, rfl, rfl⟩
  · rintro i v ρ σ' Q hv ⟨K, r0, r2, a, r3, hr⟩ hQ hR
    rw [List.getElem?_map] at hv
    cases hx : text[i]? with
    | none => rw [hx] at hv; cases hv
    | some c =>
      rw [hx] at hv; cases hv
      obtain ⟨hi, hxi⟩ := List.getElem?_eq_some_iff.mp hx
      have hdrop : text.drop i = c :: text.drop (i + 1) := by rw [← hxi, ← List.drop_eq_getElem_cons hi]
      rw [hdrop] at hr
      have eg' := K.mono' wf _ _ eg
      have et' := K.mono' wf _ _ et
      have X' := X.keep0 wf K
      obtain ⟨D, rows, o1, om, ow, m1, mm, mw, nb, k, Y, _⟩ := id X'
      -- the rest of a turn, when the first test failed
      have rest : ∀ σ2, Keeps NoW σ' σ2 → (¬ (a < goal.length ∧ ((wholeP T t cs) (goal.getD a 0)).any (· == c) = true)) → Sx.seq
              (Sx.assign 5
                (compF (fun ρ σ K => gSeq (AV.tup [AV.int 2, AV.int 3]) σ fun vs ok => K vs ok σ) 40
                  (Bx.cmp gLe (Ex.op2 gAdd (Ex.var 3) (Ex.var 40)) (Ex.ops gLen [Ex.var 2]))
                  (fun la => emit la (Ex.var 40)) [40]))
              (Sx.seq
                (Sx.assign 5
                  (compF (fun ρ σ K => ∃ v, ρ 5 = some v ∧ gSeq v σ fun vs ok => K vs ok σ) 40
                    (Bx.cmp gInI (Ex.var 4) fun ρ σ P =>
                      ∃ v,
                        ρ 0 = some v ∧
                          (∃ l kvs,
                              v = AV.inst 199 l ∧
                                σ.obj l = some (AO.dS kvs) ∧ look kvs (Str.ofString "unfolded") = none) ∧
                            ∃ v_1,
                              ρ 2 = some v_1 ∧
                                ∃ v_2,
                                  ρ 3 = some v_2 ∧
                                    ∃ v_3,
                                      ρ 3 = some v_3 ∧
                                        ∃ v_4,
                                          ρ 40 = some v_4 ∧
                                            gAdd v_3 v_4 σ fun b σ =>
                                              gSlice v_1 v_2 b σ fun v_5 σ =>
                                                gTupOf [v_5] σ fun v_6 σ => gUnf [v, v_6] σ P)
                    (fun la => emit la (Ex.var 40)) [40]))
                (Sx.seq (Sx.ite (Bx.cmp gEq (Ex.var 5) (Ex.ops Ex.list [])) (Sx.ret (Ex.const (AV.bool false))) Sx.nop)
                  (Sx.assign 3 (Ex.op2 gAdd (Ex.var 3) (Ex.op2 gItem (Ex.var 5) (Ex.const (AV.int 0)))))))
          (upd ρ 4 (some (.int c))) σ2 Q := by
        intro σ2 K2 hno
        rw [readP, if_neg hno] at hr
        have K02 := K.trans K2
        have eg2 := K2.mono' K.wf _ _ eg'
        have et2 := K2.mono' K.wf _ _ et'
        have w3 := push_wf (o := .list []) K2.wf
        refine gSeqT ?_
        refine ⟨trivial, compL_filter [2, 3] (fun s => decide ((a : Int) + s ≤ goal.length)) w3 push_new (by decide) ?_ (fun zz1 zz2 => trivial) fun ρ3 σ3 K3 e3 => ?_⟩
        · intro x hx ρ' σ4 Q4 h40 hρ K4 hQ4
          have eg4 := K4.at w3 (push_old K2.wf eg2) (Nat.ne_of_lt (K2.wf _ _ eg2))
          refine ⟨_, (hρ 3 (by decide)).trans r3, _, h40, .inl ⟨_, _, rfl, rfl, _, (hρ 2 (by decide)).trans r2, _, goal.length, rfl, by simp [lenA, eg4], by (first | lia | omega), _, _, rfl, rfl, _, rfl, hQ4 σ4 (Keeps.refl K4.wf)⟩⟩
        · have K23 : Keeps NoW σ2 σ3 := by
            have := (Keeps.refl (W := NoW) K2.wf).pushI (o := .list [])
            exact ⟨K3.wf, Nat.le_trans this.le K3.le, fun y hy hw => (K3.same y (Nat.lt_of_lt_of_le hy this.le) (Nat.ne_of_lt hy)).trans (this.same y hy hw)⟩
          have K03 := K02.trans K23
          have eg3 := K23.mono' K2.wf _ _ eg2
          have et3 := K23.mono' K2.wf _ _ et2
          have hn3 : σ2.n < σ3.n := K3.wf _ _ e3
          refine ⟨_, rfl, ?_⟩
          refine gSeqL (e3) ?_
          refine ⟨push_old K3.wf e3, ?_⟩
          refine compL_filter (([2, 3] : List Int).filter fun s => decide ((a : Int) + s ≤ goal.length)) (fun s => ((unfP T t cs) ((goal.drop a).take s.toNat)).any (· == c)) (push_wf K3.wf) push_new
            (Nat.le_trans (List.length_filter_le _ _) (by decide)) ?_ (fun σ4 K4 => K4.at (push_wf K3.wf) (push_old K3.wf e3) (Nat.ne_of_lt hn3)) fun ρ5 σ5 K5 e5 => ?_
          · intro x hx ρ' σ4 Q4 h40 hρ K4 hQ4
            obtain ⟨hx1, hx2⟩ := List.mem_filter.mp hx
            have hx2 := of_decide_eq_true hx2
            have hx3 : x = 2 ∨ x = 3 := by simpa using hx1
            have K34 : Keeps NoW σ3 σ4 := by
              have := (Keeps.refl (W := NoW) K3.wf).pushI (o := .list [])
              exact ⟨K4.wf, Nat.le_trans this.le K4.le, fun y hy hw => (K4.same y (Nat.lt_of_lt_of_le hy this.le) (Nat.ne_of_lt hy)).trans (this.same y hy hw)⟩
            have K04 := K03.trans K34
            have eg4 := K34.mono' K3.wf _ _ eg3
            have X4 := X.keep0 wf K04
            obtain ⟨D4, rows4, o14, om4, ow4, m14, mm4, mw4, nb4, k4, Y4, _⟩ := id X4
            have hxn : (a : Int) + x = ((a + x.toNat : Nat) : Int) := by (first | lia | omega)
            have hcut : cut (intsA goal) (some (a : Int)) (some ((a : Int) + x)) = intsA ((goal.drop a).take x.toNat) := by
              rw [hxn, cut_mid _ _ _ (Nat.le_add_right _ _) (by rw [List.length_map]; (first | lia | omega))]
              have : a + x.toNat - a = x.toNat := by (first | lia | omega)
              rw [this, ← List.map_drop, ← List.map_take]
            have KP : Keeps NoW σ4 (σ4.push (.list (intsA ((goal.drop a).take x.toNat)))) := (Keeps.refl K4.wf).pushI
            refine ⟨_, (hρ 4 (by decide)).trans rfl, _, (hρ 0 (by decide)).trans r0, ⟨li, _, rfl, Y4.at_, rfl⟩, _, (hρ 2 (by decide)).trans r2, _, (hρ 3 (by decide)).trans r3, _, (hρ 3 (by decide)).trans r3, _, h40, .inl ⟨_, _, rfl, rfl, ?_⟩⟩
            refine ⟨_, _, .int _, .int _, _, eg4, by rw [List.length_map]; (first | lia | omega), ?_⟩
            rw [hcut]
            refine ⟨_, _, rfl, .inr ⟨_, rfl, push_new⟩, by rw [List.length_map, List.length_take]; (first | lia | omega), li, T, t, cs, _, rfl, X4.keep0 K4.wf KP, by rw [List.length_take]; (first | lia | omega), ?_⟩
            intro σ6 r6 K6 hr6 e6
            exact ⟨c, r6, _, rfl, rfl, e6, _, rfl, hQ4 σ6 (KP.trans K6)⟩
          · have K35 : Keeps NoW σ3 σ5 := by
              have := (Keeps.refl (W := NoW) K3.wf).pushI (o := .list [])
              exact ⟨K5.wf, Nat.le_trans this.le K5.le, fun y hy hw => (K5.same y (Nat.lt_of_lt_of_le hy this.le) (Nat.ne_of_lt hy)).trans (this.same y hy hw)⟩
            have K05 := K03.trans K35
            have e5' : σ5.obj σ3.n = some (.list (intsA (sizesP (unfP T t cs) goal c a))) := e5
            have e5p := push_old (o := .list []) K5.wf e5'
            simp only [Sx.ite, Sx.ret, Bx.cmp, Ex.var, Ex.ops, Ex.evs, Ex.list, Ex.const, Ex.op2, Sx.nop]
            refine ⟨_, rfl, _, EqR.lints (b := []) e5p push_new, _, rfl, fun ht => ?_, fun hf => ?_⟩
            · have hs : sizesP (unfP T t cs) goal c a = [] := of_decide_eq_true ht
              rw [hs] at hr
              exact hR _ _ _ ⟨rfl, K05.pushI, hr.symm⟩
            · have hs : sizesP (unfP T t cs) goal c a ≠ [] := of_decide_eq_false hf
              obtain ⟨s0, sr, hs0⟩ := List.exists_cons_of_ne_nil hs
              rw [hs0] at hr e5p
              have hsm : s0 = 2 ∨ s0 = 3 := by
                have : s0 ∈ sizesP (unfP T t cs) goal c a := by rw [hs0]; exact .head _
                have := (List.mem_filter.mp (List.mem_filter.mp this).1).1
                simpa using this
              refine ⟨_, r3, _, rfl, ?_⟩
              first | refine gItemL (e5p) ?_ | refine gItemS (e5p) ?_ | refine gItemI (e5p) ?_
              refine ⟨by decide, by decide, .int s0, rfl, .inl ⟨_, _, rfl, rfl, ?_⟩⟩
              have hsn : (a : Int) + s0 = ((a + s0.toNat : Nat) : Int) := by (first | lia | omega)
              rw [hsn]
              exact (hQ (upd (upd (upd (upd ρ 4 (some (.int c))) 5 (some (.ref σ2.n))) 5 (some (.ref σ3.n))) 3 (some (.int ((a + s0.toNat : Nat) : Int)))) _ ⟨K05.pushI, r0, r2, a + s0.toNat, rfl, hr⟩ (K05.pushI.mono' wf _ _ et)).1
      refine ⟨_, r3, _, r2, _, goal.length, rfl, by simp [lenA, eg'], by (first | lia | omega), _, _, rfl, rfl, _, rfl, fun ht => ?_, fun hf => ?_⟩
      · have hal : a < goal.length := by have := of_decide_eq_true ht; (first | lia | omega)
        refine ⟨_, rfl, _, r0, ⟨li, _, rfl, Y.at_, rfl⟩, _, r2, _, r3, ?_⟩
        first | refine gItemL (eg') ?_ | refine gItemS (eg') ?_ | refine gItemI (eg') ?_
        have hga : goal.getD a 0 = goal[a] := by simp [hal]
        refine ⟨by (first | lia | omega), by (first | lia | omega), .int goal[a], by simp [hal], li, T, t, cs, goal[a], rfl, X', hg _ (List.getElem_mem hal), ?_⟩
        intro σ2 r K2 hrr er
        refine ⟨c, r, _, rfl, rfl, er, _, rfl, ⟨fun hin => ?_, fun hin => ?_⟩⟩
        · refine ⟨_, r3, .inl ⟨_, _, rfl, rfl, ?_⟩⟩
          refine (hQ (upd (upd ρ 4 (some (.int c))) 3 (some (.int ((a : Int) + 1)))) σ2 ⟨K.trans K2, r0, r2, a + 1, rfl, ?_⟩ (K2.mono' K.wf _ _ et')).2
          rw [← hr, readP, if_pos ⟨hal, by rw [hga]; exact hin⟩]
        · refine rest σ2 K2 fun h => ?_
          have := h.2
          rw [hga] at this
          have h2 : ((wholeP T t cs goal[a]).any fun x => x == c) = false := hin
          rw [this] at h2; cases h2
      · refine ⟨fun h => (nomatch h), fun zz1 => rest σ' (Keeps.refl K.wf) fun h => ?_⟩
        have := of_decide_eq_false hf
        exact this (by have := h.1; (first | lia | omega))
  · rintro ρ σ' ⟨K, r0, r2, a, r3, hr⟩
    have eg' := K.mono' wf _ _ eg
    rw [List.length_map, List.drop_length] at hr
    refine ⟨_, r3, _, r2, _, goal.length, rfl, by simp [lenA, eg'], by (first | lia | omega), _, .int _ _, ?_⟩
    have : ((a : Int) == (goal.length : Int)) = readP (wholeP T t cs) (unfP T t cs) goal 0 text := by
      rw [← hr]
      unfold readP
      by_cases h : a = goal.length
      · subst h; simp
      · have : ¬ ((a : Int) = (goal.length : Int)) := by (first | lia | omega)
        simp [h, this]
    rw [this]
    exact q σ' K
  · rintro w ρ σ' ⟨rfl, K, hr⟩
    rw [hr] at q
    exact q σ' K
end Mine
end

noncomputable section
open PySem PySem.W PyProof.Rows PySem.Calls PySem.Spec
set_option Elab.async false
set_option maxRecDepth 100000
set_option maxHeartbeats 0
set_option linter.all false
namespace Mine

noncomputable abbrev kC : Str := "C"
noncomputable abbrev kF : Str := "F"
noncomputable abbrev kS : Str := "S"
noncomputable abbrev kT : Str := "T"
noncomputable def told9 : List (Int × Row) := [(65, [(kC, [97])]), (83, [(kC, [115])]), (84, [(kC, [116])]), (383, [(kC, [115])]), (73, [(kC, [105]), (kT, [305])]), (304, [(kF, [105, 775]), (kT, [105])]), (223, [(kF, [115, 115])]), (7838, [(kF, [115, 115]), (kS, [223])]), (64261, [(kF, [115, 116])])]
noncomputable def rowK (k : Nat) (x y z : Int) : Row := match k with
  | 1 => [(kC, [x])]
  | 2 => [(kF, [x, y])]
  | 3 => [(kS, [z]), (kF, [x, y, z])]
  | _ => [(kC, [x]), (kT, [y])]
inductive Extra : List Int → List (Int × Row) → Prop
  | nil : Extra [] []
  | skip (c cs r) : Extra cs r → Extra (cs ++ [c]) r
  | take (c cs r k x y z) : Extra cs r → 1 ≤ k → k ≤ 4 → x ∈ lettersL → y ∈ lettersL → z ∈ lettersL → Extra (cs ++ [c]) (r ++ [(c, rowK k x y z)])

theorem push_set {σ : St} {o o' : AO} : (σ.push o).set σ.n o' = σ.push o' := by
  unfold St.push St.set
  congr 1
  funext k
  by_cases h : k = σ.n <;> simp [h]

theorem dictRow {σ : St} {row : Row} {l : List (AV × AV)} {P : AV → St → Prop} (hl : l = (rowA row).map (fun p => (AV.str p.1, p.2))) (hp : putAll [] (rowA row) = rowA row) (h : P (.ref σ.n) (σ.push (.dS (rowA row)))) : gDictS σ.n l (σ.push (.dS [])) P :=
  ⟨rowA row, hl, push_new, by rw [hp, push_set]; exact h⟩

noncomputable def pushRows (σ : St) : List Row → St
  | [] => σ
  | r :: rs => pushRows (σ.push (.dS (rowA r))) rs
theorem pushRows_wf : ∀ {rs : List Row} {σ : St}, WF σ → WF (pushRows σ rs)
  | [], _, h => h
  | r :: rs, _, h => pushRows_wf (rs := rs) (push_wf h)
theorem pushRows_old : ∀ {rs : List Row} {σ : St} {k : Nat} {o : AO}, WF σ → σ.obj k = some o → (pushRows σ rs).obj k = some o
  | [], _, _, _, _, e => e
  | r :: rs, _, _, _, h, e => pushRows_old (rs := rs) (push_wf h) (push_old h e)
theorem pushRows_new : ∀ {rs : List Row} {σ : St} {i : Nat} {r : Row}, WF σ → rs[i]? = some r → (pushRows σ rs).obj (σ.n + i) = some (.dS (rowA r))
  | [], _, i, _, _, e => by simp at e
  | r0 :: rs, σ, 0, r, h, e => by
    simp at e; subst e
    exact pushRows_old (rs := rs) (push_wf h) push_new
  | r0 :: rs, σ, i + 1, r, h, e => by
    have := pushRows_new (rs := rs) (σ := σ.push (.dS (rowA r0))) (i := i) (push_wf h) (by simpa using e)
    have e2 : (σ.push (.dS (rowA r0))).n + i = σ.n + (i + 1) := by simp only [St.push_n]; (first | lia | omega)
    rwa [e2] at this
theorem pushRows_n : ∀ {rs : List Row} {σ : St}, (pushRows σ rs).n = σ.n + rs.length
  | [], _ => rfl
  | r :: rs, σ => by
    have := pushRows_n (rs := rs) (σ := σ.push (.dS (rowA r)))
    simp only [pushRows, this, St.push_n, List.length_cons]; (first | lia | omega)
theorem pushRows_keeps {W : Nat → Prop} : ∀ {rs : List Row} {σ σ0 : St}, Keeps W σ0 σ → Keeps W σ0 (pushRows σ rs)
  | [], _, _, h => h
  | r :: rs, _, _, h => pushRows_keeps (rs := rs) h.pushI

theorem Extra.mem {cs ex} (h : Extra cs ex) : ∀ e ∈ ex, e.1 ∈ cs := by
  induction h with
  | nil => intro e he; cases he
  | skip c cs r _ ih => intro e he; exact List.mem_append.mpr (.inl (ih e he))
  | take c cs r k x y z _ _ _ _ _ _ ih =>
    intro e he
    rcases List.mem_append.mp he with he | he
    · exact List.mem_append.mpr (.inl (ih e he))
    · simp at he; subst he; simp
theorem put_fresh {κ α : Type} [DecidableEq κ] (kvs : List (κ × α)) (k : κ) (v : α) (h : ∀ x ∈ kvs, x.1 ≠ k) : put kvs k v = kvs ++ [(k, v)] := by
  unfold put
  rw [if_neg]
  intro he
  obtain ⟨x, hx, hk⟩ := List.any_eq_true.mp he
  exact h x hx (by simpa using hk)
theorem Wheel.keep0 {σ σ' lw sp} (W : Wheel σ lw sp) (wf : WF σ) (K : Keeps NoW σ σ') : Wheel σ' lw sp := by
  obtain ⟨r, ns, e1, e2, h⟩ := W.ex
  exact ⟨r, ns, K.mono' wf _ _ e1, K.mono' wf _ _ e2, h⟩
theorem Wheel.lt {σ lw sp} (W : Wheel σ lw sp) (wf : WF σ) : lw < σ.n ∧ sp < σ.n := by
  obtain ⟨r, ns, e1, e2, h⟩ := W.ex
  exact ⟨wf _ _ e1, wf _ _ e2⟩

theorem pick5 (n k : Nat) (h : k < 5) : ([AV.ref n, .ref (n + 1), .ref (n + 2), .ref (n + 3), .ref (n + 4)] : List AV)[k]? = some (.ref (n + k)) := by
  cases k with
  | zero => rfl
  | succ k => cases k with
    | zero => rfl
    | succ k => cases k with
      | zero => rfl
      | succ k => cases k with
        | zero => rfl
        | succ k => cases k with
          | zero => rfl
          | succ k => exact absurd h (Nat.not_lt.mpr (Nat.le_add_left 5 k))
theorem rowsAt (x y z : Int) (k : Nat) (h1 : 1 ≤ k) (h : k ≤ 4) : [rowK 1 x y z, rowK 2 x y z, rowK 3 x y z, rowK 4 x y z][k - 1]? = some (rowK k x y z) := by
  cases k with
  | zero => cases h1
  | succ k => cases k with
    | zero => rfl
    | succ k => cases k with
      | zero => rfl
      | succ k => cases k with
        | zero => rfl
        | succ k => cases k with
          | zero => rfl
          | succ k => exact absurd h (Nat.not_le.mpr (Nat.le_add_left 5 k))

noncomputable def gTold : Fs := fun vs σ P => ∃ lw sp, vs = [.ref lw] ∧ Wheel σ lw sp ∧ ∀ σ' lt T ex, Keeps (WW lw sp) σ σ' → Wheel σ' lw sp → σ.n ≤ lt → ToldR σ' lt T → (∀ t ∈ T, σ.n ≤ t.2.1) → T.map (fun t => (t.1, t.2.2)) = told9 ++ ex → Extra [7296, 7304, 42570] ex → P (.ref lt) σ'

theorem told_code {C : Ctx} {p : Params} (hC : C.K = hd.heap_39 p) : CodeN C 2 (.ref 266) gTold := by
  refine forC (Q := fun C => CodeN C 2 (.ref 266) gTold) ?_ hC
  clear hC
  intro prog w h0 p pp loose mg mb KX T
  have hC : (Ctx.mk prog w h0 (hd.heap_39 p) pp loose mg mb KX T).K = hd.heap_39 p := rfl
  have h_law_turn := turn_code hC
  clear hC
  have glob_law_letters := letters_rep KX
  refine CodeN.weakenW (codeDef (defOk_of (names := ["wheel"]) (vars := [("wheel", 0, true), ("told", 1, false), ("code", 2, false), ("kind", 3, false), ("goal", 4, false), ("rows", 5, false)]) rfl rfl rfl rfl rfl rfl rfl (bind1 (fun zz1 => rfl)))
    (simCons (simAssign (simDictI (.cons simConst_int (simDictS (.cons simConst_str (simTup (.cons simConst_int .nil (fun zz1 => rfl))) .nil) (List.cons_ne_nil _ _)) (.cons simConst_int (simDictS (.cons simConst_str (simTup (.cons simConst_int .nil (fun zz1 => rfl))) .nil) (List.cons_ne_nil _ _)) (.cons simConst_int (simDictS (.cons simConst_str (simTup (.cons simConst_int .nil (fun zz1 => rfl))) .nil) (List.cons_ne_nil _ _)) (.cons simConst_int (simDictS (.cons simConst_str (simTup (.cons simConst_int .nil (fun zz1 => rfl))) .nil) (List.cons_ne_nil _ _)) (.cons simConst_int (simDictS (.cons simConst_str (simTup (.cons simConst_int .nil (fun zz1 => rfl))) (.cons simConst_str (simTup (.cons simConst_int .nil (fun zz1 => rfl))) .nil)) (List.cons_ne_nil _ _)) (.cons simConst_int (simDictS (.cons simConst_str (simTup (.cons simConst_int (.cons simConst_int .nil (fun zz1 => rfl)) (fun zz1 => rfl))) (.cons simConst_str (simTup (.cons simConst_int .nil (fun zz1 => rfl))) .nil)) (List.cons_ne_nil _ _)) (.cons simConst_int (simDictS (.cons simConst_str (simTup (.cons simConst_int (.cons simConst_int .nil (fun zz1 => rfl)) (fun zz1 => rfl))) .nil) (List.cons_ne_nil _ _)) (.cons simConst_int (simDictS (.cons simConst_str (simTup (.cons simConst_int (.cons simConst_int .nil (fun zz1 => rfl)) (fun zz1 => rfl))) (.cons simConst_str (simTup (.cons simConst_int .nil (fun zz1 => rfl))) .nil)) (List.cons_ne_nil _ _)) (.cons simConst_int (simDictS (.cons simConst_str (simTup (.cons simConst_int (.cons simConst_int .nil (fun zz1 => rfl)) (fun zz1 => rfl))) .nil) (List.cons_ne_nil _ _)) .nil))))))))) (List.cons_ne_nil _ _)) m1)
    (simCons (simFor (simI (simTup (.cons simConst_int (.cons simConst_int (.cons simConst_int .nil (fun zz1 => rfl)) (fun zz1 => rfl)) (fun zz1 => rfl))) srcOk_seq) (simT_name m2) (simCons (simAssign (simCallFn rfl rfl rfl (.cons (simVar m0) (.cons simConst_int .nil (fun zz1 => rfl)) (fun zz1 => rfl)) h_law_turn.simN) m3)
    (simCons (simAssign (simCallT rfl rfl rfl (by decide) (.cons (simComp1 (compOk_of (vars := [("turn", 40, false), ("wheel", 0, true)]) (sl := [40]) rfl) (simI (simCallT rfl rfl rfl (by decide) (.cons simConst_int .nil (fun zz1 => rfl)) simN_range1) srcOk_rng) m0 simTests_nil (simSub (simGlob rfl rfl glob_law_letters) (simCallFn rfl rfl rfl (.cons (simVar m1) (.cons simConst_int .nil (fun zz1 => rfl)) (fun zz1 => rfl)) h_law_turn.simN))) .nil (fun zz1 => rfl)) simN_tupOf) m4)
    (simCons (simAssign (simTup (.cons (simDict0 0) (.cons (simDictS (.cons simConst_str (simSlice (simVar m4) simP_none (simP_some simConst_int)) .nil) (List.cons_ne_nil _ _)) (.cons (simDictS (.cons simConst_str (simSlice (simVar m4) simP_none (simP_some simConst_int)) .nil) (List.cons_ne_nil _ _)) (.cons (simDictS (.cons simConst_str (simSlice (simVar m4) (simP_some simConst_int) simP_none) (.cons simConst_str (simVar m4) .nil)) (List.cons_ne_nil _ _)) (.cons (simDictS (.cons simConst_str (simSlice (simVar m4) simP_none (simP_some simConst_int)) (.cons simConst_str (simSlice (simVar m4) (simP_some simConst_int) (simP_some simConst_int)) .nil)) (List.cons_ne_nil _ _)) .nil (fun zz1 => rfl)) (fun zz1 => rfl)) (fun zz1 => rfl)) (fun zz1 => rfl)) (fun zz1 => rfl))) m5)
    (simOne (simIf (simB_cmp (simVar m3) simConst_int sim_gt) (simOne (simAssignT (simSub (simVar m5) (simVar m3)) (simT_sub (simVar m1) (simVar m2)))) simNil))))))
    (simOne (simReturn (simVar m1)))))) ?_
  rintro vs σ P wf ⟨lw, sp, rfl, W, q⟩
  refine ⟨rfl, ?_⟩
  simp only [Sx.seq, Sx.assign, Ex.const, Ex.ops, Ex.evs, Ex.var, Ex.op2, Ex.op1, Sx.ret, Ex.list, Ex.tup, Ex.ife, Ex.pairs]
  refine dictRow (row := [(kC, [97])]) rfl rfl ?_
  refine dictRow (row := [(kC, [115])]) rfl rfl ?_
  refine dictRow (row := [(kC, [116])]) rfl rfl ?_
  refine dictRow (row := [(kC, [115])]) rfl rfl ?_
  refine dictRow (row := [(kC, [105]), (kT, [305])]) rfl rfl ?_
  refine dictRow (row := [(kF, [105, 775]), (kT, [105])]) rfl rfl ?_
  refine dictRow (row := [(kF, [115, 115])]) rfl rfl ?_
  refine dictRow (row := [(kF, [115, 115]), (kS, [223])]) rfl rfl ?_
  refine dictRow (row := [(kF, [115, 116])]) rfl rfl ?_
  have w0 := push_wf (o := .dI []) wf
  have hst : (((((((((σ.push (.dI [])).push (.dS (rowA [(kC, [97])]))).push (.dS (rowA [(kC, [115])]))).push (.dS (rowA [(kC, [116])]))).push (.dS (rowA [(kC, [115])]))).push (.dS (rowA [(kC, [105]), (kT, [305])]))).push (.dS (rowA [(kF, [105, 775]), (kT, [105])]))).push (.dS (rowA [(kF, [115, 115])]))).push (.dS (rowA [(kF, [115, 115]), (kS, [223])]))).push (.dS (rowA [(kF, [115, 116])])) = pushRows (σ.push (.dI [])) (told9.map (·.2)) := rfl
  refine ⟨[(65, .ref (σ.n + 1)), (83, .ref (σ.n + 2)), (84, .ref (σ.n + 3)), (383, .ref (σ.n + 4)), (73, .ref (σ.n + 5)), (304, .ref (σ.n + 6)), (223, .ref (σ.n + 7)), (7838, .ref (σ.n + 8)), (64261, .ref (σ.n + 9))], rfl, ?_, ?_⟩
  · rw [hst]; exact pushRows_old w0 push_new
  rw [hst]
  have hput : putAll [] [((65 : Int), AV.ref (σ.n + 1)), (83, .ref (σ.n + 2)), (84, .ref (σ.n + 3)), (383, .ref (σ.n + 4)), (73, .ref (σ.n + 5)), (304, .ref (σ.n + 6)), (223, .ref (σ.n + 7)), (7838, .ref (σ.n + 8)), (64261, .ref (σ.n + 9))] = [(65, .ref (σ.n + 1)), (83, .ref (σ.n + 2)), (84, .ref (σ.n + 3)), (383, .ref (σ.n + 4)), (73, .ref (σ.n + 5)), (304, .ref (σ.n + 6)), (223, .ref (σ.n + 7)), (7838, .ref (σ.n + 8)), (64261, .ref (σ.n + 9))] := rfl
  rw [hput]
  have K0 : Keeps NoW σ ((pushRows (σ.push (.dI [])) (told9.map (·.2))).set σ.n (.dI [(65, .ref (σ.n + 1)), (83, .ref (σ.n + 2)), (84, .ref (σ.n + 3)), (383, .ref (σ.n + 4)), (73, .ref (σ.n + 5)), (304, .ref (σ.n + 6)), (223, .ref (σ.n + 7)), (7838, .ref (σ.n + 8)), (64261, .ref (σ.n + 9))])) :=
    (pushRows_keeps (Keeps.refl wf).pushI).setI (by rw [pushRows_n]; simp only [St.push_n]; (first | lia | omega)) fun h => absurd h (Nat.lt_irrefl _)
  have R0 : ToldR ((pushRows (σ.push (.dI [])) (told9.map (·.2))).set σ.n (.dI [(65, .ref (σ.n + 1)), (83, .ref (σ.n + 2)), (84, .ref (σ.n + 3)), (383, .ref (σ.n + 4)), (73, .ref (σ.n + 5)), (304, .ref (σ.n + 6)), (223, .ref (σ.n + 7)), (7838, .ref (σ.n + 8)), (64261, .ref (σ.n + 9))])) σ.n
      (told9.zipIdx.map fun e => (e.1.1, σ.n + 1 + e.2, e.1.2)) := by
    refine ⟨set_self, fun t ht => ?_⟩
    obtain ⟨e, he, rfl⟩ := List.mem_map.mp ht
    have h1 := List.mem_zipIdx he
    have h2 : (told9.map (·.2))[e.2]? = some e.1.2 := by
      have := List.mem_zipIdx_iff_getElem?.mp he
      rw [List.getElem?_map, this]; rfl
    exact set_other (pushRows_new w0 h2) (by show σ.n + 1 + e.2 ≠ σ.n; (first | lia | omega))
  have W0 := W.keep0 wf K0
  have hT9 : (told9.zipIdx.map fun e => (e.1.1, σ.n + 1 + e.2, e.1.2)).map (fun t : Int × Nat × Row => (t.1, t.2.2)) = told9 ++ [] := rfl
  generalize (pushRows (σ.push (.dI [])) (told9.map (·.2))).set σ.n (.dI [(65, .ref (σ.n + 1)), (83, .ref (σ.n + 2)), (84, .ref (σ.n + 3)), (383, .ref (σ.n + 4)), (73, .ref (σ.n + 5)), (304, .ref (σ.n + 6)), (223, .ref (σ.n + 7)), (7838, .ref (σ.n + 8)), (64261, .ref (σ.n + 9))]) = σ1 at K0 R0 W0 ⊢
  have hwl := W.lt wf
  refine gSeqT ?_
  have hcs : ([.int 7296, .int 7304, .int 42570] : List AV) = intsA [7296, 7304, 42570] := rfl
  rw [hcs]
  refine forL_all _ (fun i ρ σ' => Keeps (WW lw sp) σ σ' ∧ Wheel σ' lw sp ∧ ρ 0 = some (.ref lw) ∧ ρ 1 = some (.ref σ.n) ∧ ∃ T ex, ToldR σ' σ.n T ∧ (∀ t ∈ T, σ.n ≤ t.2.1) ∧ T.map (fun t => (t.1, t.2.2)) = told9 ++ ex ∧ Extra (([7296, 7304, 42570] : List Int).take i) ex) (fun zz1 zz2 zz3 => False) ?_ ?_ (fun zz1 zz2 zz3 h => h.elim)
    ⟨K0.off, W0, rfl, rfl, _, [], R0, ?_, hT9, .nil⟩
  · rintro i v ρ σ' Q hv ⟨K, W', r0, r1, T, ex, R, hge, hT, hE⟩ hQ hR
    rw [List.getElem?_map] at hv
    generalize hcodes : ([7296, 7304, 42570] : List Int) = codes at hv hE hQ
    cases hx : codes[i]? with
    | none => rw [hx] at hv; cases hv
    | some c =>
      rw [hx] at hv; cases hv
      simp only [Sx.seq, Sx.assign, Ex.ops, Ex.evs, Ex.var, Ex.const, compF, Ex.tup]
      refine ⟨_, r0, lw, sp, 5, rfl, W', by decide, by decide, fun σ2 kd K2 W2 hk0 hk5 => ?_⟩
      refine ⟨3, rfl, 0, 3, rfl, by decide, by decide, by decide, by decide, trivial, ?_⟩
      have K02 := K.trans K2
      have W2' := W2.keep0 K2.wf (Keeps.refl (W := NoW) K2.wf).pushI (σ' := σ2.push (.list []))
      have hwl2 := W2.lt K2.wf
      refine compL_all _ (fun j ρ3 σ3 => Keeps (WW lw sp) σ2 σ3 ∧ Wheel σ3 lw sp ∧ ρ3 0 = some (.ref lw) ∧ ∃ ls, σ3.obj σ2.n = some (.list (intsA ls)) ∧ ls.length = j ∧ ∀ x ∈ ls, x ∈ lettersL) ?_ ?_ ⟨(Keeps.refl K2.wf).pushI, W2', r0, [], push_new, rfl, by simp⟩
      · rintro j v3 ρ3 σ3 Q3 Q4 hv3 ⟨K3, W3, s0, ls, el, hll, hlm⟩ hf3 ht3 hn4
        have hj : j < 3 := by
          have := (List.getElem?_eq_some_iff.mp hv3).1
          simpa [rngInts] using this
        refine ht3 σ3 ?_
        refine ⟨_, s0, lw, sp, 6, rfl, W3, by decide, by decide, fun σ4 t K4 W4 ht0 ht6 => ?_⟩
        have el4 := K4.at K3.wf el fun h => by rcases h with h | h <;> (first | lia | omega)
        have htn : t.toNat < lettersL.length := by show t.toNat < 6; (first | lia | omega)
        refine ⟨ht0, by (first | lia | omega), .int lettersL[t.toNat], by rw [List.getElem?_map, List.getElem?_eq_getElem htn]; rfl, _, el4, by rw [List.length_map]; (first | lia | omega), ?_⟩
        have hlt4 : σ2.n < σ4.n := K4.wf _ _ el4
        have KA : Keeps (WW lw sp) σ2 (σ4.set σ2.n (.list (intsA ls ++ [.int lettersL[t.toNat]]))) := (K3.trans K4).setI hlt4 fun h => absurd h (Nat.lt_irrefl _)
        refine hn4 _ _ ⟨KA, ?_, s0, ls ++ [lettersL[t.toNat]], by rw [set_self]; simp, by simp [hll], ?_⟩ trivial
        · obtain ⟨rr, ns, e1, e2, h⟩ := W4.ex
          exact ⟨rr, ns, set_other e1 (by (first | lia | omega)), set_other e2 (by (first | lia | omega)), h⟩
        · intro x hx
          rcases List.mem_append.mp hx with hx | hx
          · exact hlm x hx
          · simp at hx; rw [hx]; exact List.getElem_mem htn
      · rintro ρ3 σ3 ⟨K3, W3, s0, ls, el, hll, hlm⟩
        have h3 : ls.length = 3 := by rw [hll]; simp [rngInts]
        obtain ⟨x, y, z, rfl⟩ : ∃ x y z, ls = [x, y, z] := by
          match ls, h3 with
          | [x, y, z], _ => exact ⟨x, y, z, rfl⟩
        have s1 : cut (intsA [x, y, z]) none (some 1) = intsA [x] := rfl
        have s2 : cut (intsA [x, y, z]) none (some 2) = intsA [x, y] := rfl
        have s3 : cut (intsA [x, y, z]) (some 2) none = intsA [z] := rfl
        have s4 : cut (intsA [x, y, z]) (some 1) (some 2) = intsA [y] := rfl
        refine ⟨_, _, rfl, .inr ⟨_, rfl, el⟩, Nat.le_of_ble_eq_true rfl, ?_⟩
        refine ⟨_, rfl, _, _, .none, .int 1, Nat.le_of_ble_eq_true rfl, ?_⟩
        refine dictRow (row := [(kC, [x])]) rfl rfl ?_
        refine ⟨_, rfl, _, _, .none, .int 2, Nat.le_of_ble_eq_true rfl, ?_⟩
        refine dictRow (row := [(kF, [x, y])]) rfl rfl ?_
        refine ⟨_, rfl, _, _, .int 2, .none, Nat.le_of_ble_eq_true rfl, ?_⟩
        refine ⟨_, rfl, ?_⟩
        refine dictRow (row := [(kS, [z]), (kF, [x, y, z])]) rfl rfl ?_
        refine ⟨_, rfl, _, _, .none, .int 1, Nat.le_of_ble_eq_true rfl, ?_⟩
        refine ⟨_, rfl, _, _, .int 1, .int 2, Nat.le_of_ble_eq_true rfl, ?_⟩
        refine dictRow (row := [(kC, [x]), (kT, [y])]) rfl rfl ?_
        have hst2 : ((((σ3.push (emptyD 0)).push (.dS (rowA [(kC, [x])]))).push (.dS (rowA [(kF, [x, y])]))).push (.dS (rowA [(kS, [z]), (kF, [x, y, z])]))).push (.dS (rowA [(kC, [x]), (kT, [y])])) = pushRows (σ3.push (emptyD 0)) [rowK 1 x y z, rowK 2 x y z, rowK 3 x y z, rowK 4 x y z] := rfl
        rw [hst2]
        have wp := push_wf (o := emptyD 0) K3.wf
        have KR : Keeps NoW σ3 (pushRows (σ3.push (emptyD 0)) [rowK 1 x y z, rowK 2 x y z, rowK 3 x y z, rowK 4 x y z]) := pushRows_keeps (Keeps.refl K3.wf).pushI
        have rowAt : ∀ j : Nat, 1 ≤ j → j ≤ 4 → (pushRows (σ3.push (emptyD 0)) [rowK 1 x y z, rowK 2 x y z, rowK 3 x y z, rowK 4 x y z]).obj (σ3.n + j) = some (.dS (rowA (rowK j x y z))) := fun j h1 h2 => by
          have := pushRows_new (rs := [rowK 1 x y z, rowK 2 x y z, rowK 3 x y z, rowK 4 x y z]) (i := j - 1) (r := rowK j x y z) wp (rowsAt x y z j h1 h2)
          have e : (σ3.push (emptyD 0)).n + (j - 1) = σ3.n + j := by show σ3.n + 1 + (j - 1) = σ3.n + j; rw [Nat.add_assoc, Nat.add_sub_cancel' h1]
          rwa [e] at this
        generalize pushRows (σ3.push (emptyD 0)) [rowK 1 x y z, rowK 2 x y z, rowK 3 x y z, rowK 4 x y z] = τ at KR rowAt ⊢
        have K03 : Keeps (WW lw sp) σ τ := (K02.trans K3).trans KR.off
        have Rτ : ToldR τ σ.n T := by
          have R2 := R.wheel K.wf W' K2
          exact (R2.wheel K2.wf W2 K3).keep0 K3.wf KR
        have Wτ : Wheel τ lw sp := W3.keep0 K3.wf KR
        have Kτlt : σ.n < τ.n := KR.wf _ _ Rτ.at_
        have htake : codes.take (i + 1) = codes.take i ++ [c] := by rw [List.take_add_one, hx]; rfl
        refine ⟨_, rfl, _, _, rfl, rfl, _, rfl, fun hgt => ?_, fun hng => ?_⟩
        · have hk1 : 0 < kd := of_decide_eq_true hgt
          have hkn : kd.toNat = kd.toNat := rfl
          refine ⟨_, rfl, _, rfl, ?_⟩
          refine gItemT ?_
          have hpick : ([AV.ref σ3.n, AV.ref (σ3.n + 1), AV.ref (σ3.n + 2), AV.ref (σ3.n + 3), AV.ref (σ3.n + 4)] : List AV)[kd.toNat]? = some (.ref (σ3.n + kd.toNat)) := by
            exact pick5 σ3.n kd.toNat ((Int.toNat_lt hk0).mpr hk5)
          refine ⟨hk0, by (first | lia | omega), .ref (σ3.n + kd.toNat), hpick, _, r1, _, rfl, ?_⟩
          first | refine gSetS (Rτ.at_) ?_ | refine gSetI (Rτ.at_) ?_
          have hkeys : T.map (·.1) = told9.map (·.1) ++ ex.map (·.1) := by
            have := congrArg (List.map (·.1)) hT
            simpa [Function.comp_def] using this
          have hcn : c ∉ T.map (·.1) := by
            rw [hkeys]
            intro hm
            have hci := List.mem_of_getElem? hx
            rcases List.mem_append.mp hm with hm | hm
            · rw [← hcodes] at hci
              have : ∀ c ∈ ([7296, 7304, 42570] : List Int), c ∉ told9.map (·.1) := by decide +kernel
              exact this c hci hm
            · obtain ⟨e, he, rfl⟩ := List.mem_map.mp hm
              have hme := Extra.mem hE e he
              have hnd : codes.Nodup := by rw [← hcodes]; decide
              obtain ⟨hi, hxi⟩ := List.getElem?_eq_some_iff.mp hx
              obtain ⟨j, hj, hje⟩ := List.getElem_of_mem hme
              have hj2 : j < i := by rw [List.length_take] at hj; (first | lia | omega)
              rw [List.getElem_take] at hje
              have := (List.getElem_inj hnd).mp (hje.trans hxi.symm)
              (first | lia | omega)
          have hfr : put (T.map fun t => (t.1, AV.ref t.2.1)) c (AV.ref (σ3.n + kd.toNat)) = (T ++ [(c, σ3.n + kd.toNat, rowK kd.toNat x y z)]).map fun t => (t.1, AV.ref t.2.1) := by
            rw [put_fresh]
            · simp
            · intro u hu hk
              obtain ⟨t, ht, rfl⟩ := List.mem_map.mp hu
              exact hcn (List.mem_map.mpr ⟨t, ht, hk⟩)
          have hlenT : T.length ≤ 900 := by
            have h1 := congrArg List.length hT
            have h2 : ∀ {cs : List Int} {e : List (Int × Row)}, Extra cs e → e.length ≤ cs.length := by
              intro cs e h
              induction h with
              | nil => exact Nat.le_refl _
              | skip c cs r _ ih => simp; (first | lia | omega)
              | take c cs r k x y z _ _ _ _ _ _ ih => simp; (first | lia | omega)
            have h3 := h2 hE
            have h4 : codes.length = 3 := by rw [← hcodes]; rfl
            have h5 : told9.length = 9 := rfl
            simp only [List.length_map, List.length_append, List.length_take] at h1 h3
            (first | lia | omega)
          refine ⟨by rw [List.length_map]; exact hlenT, ?_⟩
          rw [hfr]
          have hσn : σ.n < τ.n := Kτlt
          have KS : Keeps (WW lw sp) σ (τ.set σ.n (.dI ((T ++ [(c, σ3.n + kd.toNat, rowK kd.toNat x y z)]).map fun t => (t.1, AV.ref t.2.1)))) := K03.setI hσn fun h => absurd h (Nat.lt_irrefl _)
          have hk4 : kd.toNat ≤ 4 := by (first | lia | omega)
          have hge3 : σ.n ≤ σ3.n := Nat.le_trans K02.le K3.le
          refine (hQ (upd (upd (upd (upd ρ 2 (some (AV.int c))) 3 (some (AV.int kd))) 4 (some (AV.tup (intsA [x, y, z])))) 5 _) _ ⟨KS, ?_, r0, r1, T ++ [(c, σ3.n + kd.toNat, rowK kd.toNat x y z)], ex ++ [(c, rowK kd.toNat x y z)], ⟨set_self, fun t ht => ?_⟩, fun t ht => ?_, ?_, ?_⟩ trivial).1
          · obtain ⟨rr, ns, e1, e2, h⟩ := Wτ.ex
            exact ⟨rr, ns, set_other e1 (by (first | lia | omega)), set_other e2 (by (first | lia | omega)), h⟩
          · rcases List.mem_append.mp ht with ht | ht
            · exact set_other (Rτ.rows t ht) (obj_ne (Rτ.rows t ht) Rτ.at_ (by simp))
            · simp at ht; subst ht
              exact set_other (rowAt kd.toNat (by (first | lia | omega)) hk4) (by show σ3.n + kd.toNat ≠ σ.n; (first | lia | omega))
          · rcases List.mem_append.mp ht with ht | ht
            · exact hge t ht
            · simp at ht; subst ht; show σ.n ≤ σ3.n + kd.toNat; (first | lia | omega)
          · rw [List.map_append, hT]; simp
          · rw [htake]
            exact .take c _ _ kd.toNat x y z hE (by (first | lia | omega)) hk4 (hlm x (by simp)) (hlm y (by simp)) (hlm z (by simp))
        · have hk1 : kd = 0 := by have := of_decide_eq_false hng; (first | lia | omega)
          refine (hQ (upd (upd (upd (upd ρ 2 (some (AV.int c))) 3 (some (AV.int kd))) 4 (some (AV.tup (intsA [x, y, z])))) 5 _) τ ⟨K03, Wτ, r0, r1, T, ex, Rτ, hge, hT, ?_⟩ trivial).1
          rw [htake]; exact .skip c _ _ hE
  · rintro ρ σ' ⟨K, W', r0, r1, T, ex, R, hge, hT, hE⟩
    exact ⟨_, r1, q σ' σ.n T ex K W' (Nat.le_refl _) R hge hT hE⟩
  · intro t ht
    obtain ⟨e, he, rfl⟩ := List.mem_map.mp ht
    show σ.n ≤ σ.n + 1 + e.2
    (first | lia | omega)
end Mine
end

noncomputable section
open PySem PySem.W PyProof.Rows PySem.Calls PySem.Spec
set_option Elab.async false
set_option maxRecDepth 100000
set_option maxHeartbeats 0
set_option linter.all false
namespace Mine

/-! ## the plain law -/
noncomputable def TK (T : Told) : Prop := ∃ ex, T.map (fun t => (t.1, t.2.2)) = told9 ++ ex ∧ Extra [7296, 7304, 42570] ex

theorem Extra.row {cs ex} (h : Extra cs ex) : ∀ e ∈ ex, ∃ k x y z, e.2 = rowK k x y z ∧ x ∈ lettersL ∧ y ∈ lettersL ∧ z ∈ lettersL := by
  induction h with
  | nil => intro e he; cases he
  | skip c cs r _ ih => exact ih
  | take c cs r k x y z _ _ _ hx hy hz ih =>
    intro e he
    rcases List.mem_append.mp he with he | he
    · exact ih e he
    · simp at he; subst he; exact ⟨k, x, y, z, rfl, hx, hy, hz⟩

noncomputable def goodRow (row : Row) : Prop := ∀ p ∈ row, 1 ≤ p.2.length ∧ p.2.length ≤ 3 ∧ (p.1 ≠ kS → ∀ y ∈ p.2, y ∈ lettersL)
theorem good_rowK (k x y z) (hx : x ∈ lettersL) (hy : y ∈ lettersL) (hz : z ∈ lettersL) : goodRow (rowK k x y z) := by
  unfold rowK
  split <;> intro p hp
  · simp at hp; subst hp; exact ⟨by simp, by simp, fun zz1 u hu => by simp at hu; subst hu; exact hx⟩
  · simp at hp; subst hp; exact ⟨by simp, by simp, fun zz1 u hu => by
      rcases List.mem_cons.mp hu with h | h
      · rw [h]; exact hx
      · simp at h; rw [h]; exact hy⟩
  · simp at hp
    rcases hp with rfl | rfl
    · exact ⟨by simp, by simp, fun h => absurd rfl h⟩
    · exact ⟨by simp, by simp, fun zz1 u hu => by
        rcases List.mem_cons.mp hu with h | h
        · rw [h]; exact hx
        · rcases List.mem_cons.mp h with h | h
          · rw [h]; exact hy
          · simp at h; rw [h]; exact hz⟩
  · simp at hp
    rcases hp with rfl | rfl
    · exact ⟨by simp, by simp, fun zz1 u hu => by simp at hu; subst hu; exact hx⟩
    · exact ⟨by simp, by simp, fun zz1 u hu => by simp at hu; subst hu; exact hy⟩
theorem good9 : ∀ e ∈ told9, goodRow e.2 := by
  intro e he p hp
  have : told9.all (fun e => e.2.all fun p => decide (1 ≤ p.2.length) && decide (p.2.length ≤ 3) && (p.1 == kS || p.2.all fun y => lettersL.contains y)) = true := by decide +kernel
  have h1 := List.all_eq_true.mp (List.all_eq_true.mp this e he) p hp
  simp only [Bool.and_eq_true, decide_eq_true_eq, Bool.or_eq_true, beq_iff_eq, List.all_eq_true] at h1
  refine ⟨h1.1.1, h1.1.2, fun hs y hy => ?_⟩
  rcases h1.2 with h | h
  · exact absurd h hs
  · simpa using h y hy

theorem TK.row {T : Told} (h : TK T) {c : Int} {t} (hf : findT T c = some t) : goodRow t.2.2 ∧ c ∈ knownL ∧ c ∉ lettersL := by
  obtain ⟨ex, hT, hE⟩ := h
  obtain ⟨hm, rfl⟩ := findT_mem hf
  have hm2 : (t.1, t.2.2) ∈ told9 ++ ex := by rw [← hT]; exact List.mem_map.mpr ⟨t, hm, rfl⟩
  rcases List.mem_append.mp hm2 with h9 | hx
  · refine ⟨good9 _ h9, ?_⟩
    have : ∀ e ∈ told9.map (·.1), e ∈ knownL ∧ e ∉ lettersL := by decide +kernel
    exact this _ (List.mem_map.mpr ⟨_, h9, rfl⟩)
  · obtain ⟨k, x, y, z, e, h1, h2, h3⟩ := hE.row _ hx
    refine ⟨by have e' : t.2.2 = rowK k x y z := e; rw [e']; exact good_rowK k x y z h1 h2 h3, ?_⟩
    have : ∀ e ∈ ([7296, 7304, 42570] : List Int), e ∈ knownL ∧ e ∉ lettersL := by decide +kernel
    exact this _ (hE.mem _ hx)

theorem sts_noS (t : Bool) : ∀ s ∈ stsOf true t, s ≠ kS := by cases t <;> decide +kernel

/-- a code's fold: itself, or one to three letters -/
theorem TK.fold {T : Told} (h : TK T) (t : Bool) (c : Int) : foldT T (stsOf true t) c = [c] ∨ (1 ≤ (foldT T (stsOf true t) c).length ∧ (foldT T (stsOf true t) c).length ≤ 3 ∧ (∀ y ∈ foldT T (stsOf true t) c, y ∈ lettersL)) := by
  unfold foldT
  cases hf : findT T c with
  | none => exact .inl rfl
  | some u =>
    obtain ⟨hg, _⟩ := h.row hf
    dsimp only
    unfold foldRow
    cases hs : (stsOf true t).findSome? (fun s => look u.2.2 s) with
    | none => exact .inl rfl
    | some g =>
      obtain ⟨s, hm, hl⟩ := List.exists_of_findSome?_eq_some hs
      have := hg _ (look_mem hl)
      exact .inr ⟨this.1, this.2.1, this.2.2 (sts_noS t s hm)⟩
theorem TK.len {T : Told} (h : TK T) (t : Bool) (c : Int) : 1 ≤ (foldT T (stsOf true t) c).length ∧ (foldT T (stsOf true t) c).length ≤ 3 := by
  rcases h.fold t c with h | h
  · rw [h]; exact ⟨Nat.le_refl _, Nat.le_of_ble_eq_true rfl⟩
  · exact ⟨h.1, h.2.1⟩
/-- letters stay -/
theorem TK.letter {T : Told} (h : TK T) (t : Bool) {y : Int} (hy : y ∈ lettersL) : foldT T (stsOf true t) y = [y] := by
  unfold foldT
  cases hf : findT T y with
  | none => rfl
  | some u => exact absurd hy (h.row hf).2.2
theorem letters_known : ∀ y ∈ lettersL, y ∈ knownL := by decide +kernel
/-- what a known code folds to stays, and is known -/
theorem TK.stay {T : Told} (h : TK T) (t : Bool) {c : Int} (hc : c ∈ knownL) : ∀ y ∈ foldT T (stsOf true t) c, foldT T (stsOf true t) y = [y] ∧ y ∈ knownL := by
  intro y hy
  rcases h.fold t c with e | e
  · rw [e] at hy; simp at hy; subst hy; exact ⟨e, hc⟩
  · exact ⟨h.letter t (e.2.2 y hy), letters_known y (e.2.2 y hy)⟩
theorem TK.out {T : Told} (t : Bool) {c : Int} (hc : c ∉ T.map (·.1)) : foldT T (stsOf true t) c = [c] := by
  unfold foldT
  cases hf : findT T c with
  | none => rfl
  | some u => exact absurd (List.mem_map.mpr ⟨u, (findT_mem hf).1, (findT_mem hf).2⟩) hc
theorem TK.codes {T : Told} (h : TK T) : ∀ c ∈ T.map (·.1), c ∈ knownL := by
  intro c hc
  obtain ⟨t, ht, rfl⟩ := List.mem_map.mp hc
  cases hf : findT T t.1 with
  | none =>
    have := List.find?_eq_none.mp hf t ht
    simp at this
  | some u => exact (h.row hf).2.1
theorem known_sorted : knownL.Pairwise (· < ·) := by decide +kernel
theorem known_nonneg : ∀ c ∈ knownL, 0 ≤ c ∧ c < 1114111 := by decide +kernel
theorem alike_sorted (T : Told) (t : Bool) (g : List Int) : (alikeP T t g).Pairwise (· < ·) := known_sorted.sublist List.filter_sublist
theorem mem_alike {T : Told} {t : Bool} {g : List Int} {c : Int} : c ∈ alikeP T t g ↔ c ∈ knownL ∧ foldT T (stsOf true t) c = g := by simp [alikeP, List.mem_filter]

/-- cs: the told codes, ascending -/
structure Codes (T : Told) (cs : List Int) : Prop where
  nd : cs.Nodup
  mem : ∀ c, c ∈ cs ↔ c ∈ T.map (·.1)

theorem TK.whole {T : Told} (h : TK T) (t : Bool) {cs : List Int} (hcs : Codes T cs) {c : Int} (hc : foldT T (stsOf true t) c = [c] → c ∈ knownL) : wholeP T t cs c = alikeP T t [c] := by
  refine (srt_uniq ?_ ((alike_sorted T t [c]).imp Int.le_of_lt)).symm
  have nd1 : (alikeP T t [c]).Nodup := (alike_sorted T t [c]).imp Int.ne_of_lt
  have nd2 : (wantW T t cs c ++ if foldT T (stsOf true t) c = [c] then [c] else []).Nodup := by
    split
    · refine List.nodup_append.mpr ⟨hcs.nd.sublist List.filter_sublist, by simp, ?_⟩
      intro x hx y hy
      simp at hy; subst hy
      have := (List.mem_filter.mp hx).2
      simp at this
      exact fun e => this.2 e.symm
    · simp; exact hcs.nd.sublist List.filter_sublist
  refine (List.perm_ext_iff_of_nodup nd1 nd2).mpr fun x => ?_
  rw [mem_alike, List.mem_append]
  constructor
  · rintro ⟨hx, hf⟩
    by_cases hxc : x = c
    · subst hxc
      exact .inr (by rw [if_pos hf]; simp)
    · refine .inl (List.mem_filter.mpr ⟨?_, by simp [hf, Ne.symm hxc]⟩)
      rw [hcs.mem]
      by_cases hm : x ∈ T.map (·.1)
      · exact hm
      · have := TK.out (T := T) t hm
        rw [this] at hf
        simp at hf
        exact absurd hf hxc
  · rintro (hx | hx)
    · obtain ⟨h1, h2⟩ := List.mem_filter.mp hx
      simp at h2
      exact ⟨h.codes x ((hcs.mem x).mp h1), h2.1⟩
    · split at hx
      · rename_i hf
        simp at hx; subst hx
        exact ⟨hc hf, hf⟩
      · simp at hx
theorem TK.unf {T : Told} (h : TK T) (t : Bool) {cs : List Int} (hcs : Codes T cs) {g : List Int} (hg : g.length ≠ 1) : unfP T t cs g = alikeP T t g := by
  refine (srt_uniq ?_ ((alike_sorted T t g).imp Int.le_of_lt)).symm
  have nd1 : (alikeP T t g).Nodup := (alike_sorted T t g).imp Int.ne_of_lt
  have nd2 : (wantM T t cs g).Nodup := hcs.nd.sublist List.filter_sublist
  refine (List.perm_ext_iff_of_nodup nd1 nd2).mpr fun x => ?_
  rw [mem_alike]
  constructor
  · rintro ⟨hx, hf⟩
    refine List.mem_filter.mpr ⟨?_, by simp [hf, hg]⟩
    rw [hcs.mem]
    by_cases hm : x ∈ T.map (·.1)
    · exact hm
    · have := TK.out (T := T) t hm
      rw [this] at hf
      exact absurd (by rw [← hf]; rfl) hg
  · intro hx
    obtain ⟨h1, h2⟩ := List.mem_filter.mp hx
    simp at h2
    exact ⟨h.codes x ((hcs.mem x).mp h1), h2.1⟩
end Mine
end

noncomputable section
open PySem PySem.W PyProof.Rows PySem.Calls PySem.Spec
set_option Elab.async false
set_option maxRecDepth 100000
set_option maxHeartbeats 0
set_option linter.all false
namespace Mine

theorem spell_fold (T : Told) (t : Bool) (cs : List Int) : ∀ (goal : List Int), (∀ x ∈ goal, wholeP T t cs x = alikeP T t [x]) → ∀ found, goal.foldl (spellStep T t cs) found = found.flatMap fun h => (textsP T t goal).map fun r => h ++ r
  | [], _, found => by simp [textsP]
  | c :: r, hg, found => by
    rw [List.foldl_cons, spell_fold T t cs r (fun x hx => hg x (.tail _ hx))]
    unfold spellStep
    rw [hg c (.head _), textsP, List.flatMap_assoc]
    congr 1
    funext h
    rw [List.flatMap_map, List.map_flatMap]
    congr 1
    funext o
    rw [List.map_map]
    congr 1
    funext y
    simp
theorem spell_texts (T : Told) (t : Bool) (cs goal : List Int) (hg : ∀ x ∈ goal, wholeP T t cs x = alikeP T t [x]) : spellP T t cs goal = textsP T t goal := by
  unfold spellP
  rw [spell_fold T t cs goal hg]
  simp

theorem any_mem (l : List Int) (c : Int) : (l.any fun x => x == c) = decide (c ∈ l) := by
  induction l with
  | nil => rfl
  | cons a r ih =>
    simp only [List.any_cons, ih, List.mem_cons]
    by_cases h : a = c
    · subst h; simp
    · have h2 : ¬ c = a := Ne.symm h
      have h3 : (a == c) = false := beq_eq_false_iff_ne.mpr h
      simp [h2, h3]

theorem TK.read {T : Told} (h : TK T) (t : Bool) {wh : Int → List Int} {un : List Int → List Int} (goal : List Int) (hwh : ∀ x ∈ goal, wh x = alikeP T t [x]) (hun : ∀ g, g.length ≠ 1 → un g = alikeP T t g) :
    ∀ (text : List Int) (a : Nat), (∀ c ∈ text, c ∈ knownL) → a ≤ goal.length → readP wh un goal a text = decide (folds T (stsOf true t) text = goal.drop a)
  | [], a, _, ha => by
    unfold readP
    by_cases e : a = goal.length
    · subst e; simp [folds]
    · have : goal.drop a ≠ [] := by
        intro hh
        have := congrArg List.length hh
        simp at this; (first | lia | omega)
      simp [folds, e, Ne.symm this]
  | c :: r, a, hk, ha => by
    have hc := hk c (.head _)
    have hr := fun x hx => hk x (.tail _ hx)
    have hfc : folds T (stsOf true t) (c :: r) = foldT T (stsOf true t) c ++ folds T (stsOf true t) r := rfl
    rw [hfc]
    have hlen := h.len t c
    generalize hF : foldT T (stsOf true t) c = F at hlen ⊢
    have test1 : ∀ (ha2 : a < goal.length), ((wh (goal.getD a 0)).any fun x => x == c) = decide (F = [goal[a]]) := fun ha2 => by
      have e : goal.getD a 0 = goal[a] := by simp [ha2]
      rw [e, hwh _ (List.getElem_mem ha2), any_mem]
      congr 1
      rw [mem_alike, hF]
      simp [hc]
    have pick : ∀ n : Nat, n = 2 ∨ n = 3 → (((un ((goal.drop a).take ((n : Int)).toNat)).any fun x => x == c) && decide ((a : Int) + (n : Int) ≤ goal.length)) = decide (a + n ≤ goal.length ∧ F = (goal.drop a).take n) := fun n hn => by
      have e : ((n : Int)).toNat = n := by (first | lia | omega)
      rw [e]
      by_cases hle : a + n ≤ goal.length
      · have hl : ((goal.drop a).take n).length = n := by rw [List.length_take, List.length_drop]; (first | lia | omega)
        rw [hun _ (by rw [hl]; (first | lia | omega)), any_mem]
        have h1 : decide ((a : Int) + (n : Int) ≤ goal.length) = true := decide_eq_true (by (first | lia | omega))
        rw [h1, Bool.and_true]
        congr 1
        rw [mem_alike, hF]
        simp [hc, hle]
      · have h1 : decide ((a : Int) + (n : Int) ≤ goal.length) = false := decide_eq_false (by (first | lia | omega))
        rw [h1, Bool.and_false]
        simp [hle]
    have hsz : sizesP un goal c a = (([2, 3] : List Int).filter fun s => ((un ((goal.drop a).take s.toNat)).any fun x => x == c) && decide ((a : Int) + s ≤ goal.length)) := by
      unfold sizesP
      rw [List.filter_filter]
    have p2 := pick 2 (.inl rfl)
    have p3 := pick 3 (.inr rfl)
    have hlt : ∀ n, F = (goal.drop a).take n → a + n ≤ goal.length → F.length = n := fun n he hle => by
      rw [he, List.length_take, List.length_drop]; (first | lia | omega)
    have hs2 : sizesP un goal c a = (if a + 2 ≤ goal.length ∧ F = (goal.drop a).take 2 then [2] else []) ++ (if a + 3 ≤ goal.length ∧ F = (goal.drop a).take 3 then [3] else []) := by
      rw [hsz]
      simp only [List.filter_cons, List.filter_nil]
      have p2' : (((un ((goal.drop a).take (2 : Int).toNat)).any fun x => x == c) && decide ((a : Int) + 2 ≤ goal.length)) = decide (a + 2 ≤ goal.length ∧ F = (goal.drop a).take 2) := p2
      have p3' : (((un ((goal.drop a).take (3 : Int).toNat)).any fun x => x == c) && decide ((a : Int) + 3 ≤ goal.length)) = decide (a + 3 ≤ goal.length ∧ F = (goal.drop a).take 3) := p3
      rw [p2', p3']
      have gen : ∀ (q2 q3 : Prop) [Decidable q2] [Decidable q3], (if decide q2 = true then (2 : Int) :: (if decide q3 = true then [3] else []) else if decide q3 = true then [3] else []) = (if q2 then [2] else []) ++ (if q3 then [3] else []) := by
        intro q2 q3 _ _
        by_cases h2 : q2 <;> by_cases h3 : q3 <;> simp [h2, h3]
      exact gen _ _
    unfold readP
    -- a whole piece of the goal
    have piece : ∀ n, a + n ≤ goal.length → F = (goal.drop a).take n → decide (F ++ folds T (stsOf true t) r = goal.drop a) = decide (folds T (stsOf true t) r = goal.drop (a + n)) := fun n hle he => by
      congr 1
      have e2 : goal.drop a = F ++ goal.drop (a + n) := by
        rw [he]
        conv => lhs; rw [← List.take_append_drop n (goal.drop a)]
        rw [List.drop_drop]
      rw [e2]
      simp
    have nopiece : ∀ n, F.length = n → ¬ (a + n ≤ goal.length ∧ F = (goal.drop a).take n) → decide (F ++ folds T (stsOf true t) r = goal.drop a) = false := fun n hn hno => by
      refine decide_eq_false fun he => hno ?_
      have hl := congrArg List.length he
      simp at hl
      refine ⟨by (first | lia | omega), ?_⟩
      rw [← he, ← hn, List.take_left']
      rfl
    by_cases h1 : F.length = 1
    · have n2 : ¬ (a + 2 ≤ goal.length ∧ F = (goal.drop a).take 2) := fun hh => by have := hlt 2 hh.2 hh.1; (first | lia | omega)
      have n3 : ¬ (a + 3 ≤ goal.length ∧ F = (goal.drop a).take 3) := fun hh => by have := hlt 3 hh.2 hh.1; (first | lia | omega)
      rw [hs2, if_neg n2, if_neg n3]
      by_cases ha2 : a < goal.length
      · have htk : (goal.drop a).take 1 = [goal[a]] := by rw [List.drop_eq_getElem_cons ha2]; rfl
        by_cases he : F = [goal[a]]
        · rw [if_pos ⟨ha2, by rw [test1 ha2]; exact decide_eq_true he⟩, TK.read h t goal hwh hun r (a + 1) hr ha2, piece 1 ha2 (by rw [htk]; exact he)]
        · rw [if_neg (fun hh => by rw [test1 ha2] at hh; exact he (of_decide_eq_true hh.2)), nopiece 1 h1 (fun hh => he (by rw [← htk]; exact hh.2))]
          rfl
      · rw [if_neg (fun hh => ha2 hh.1), nopiece 1 h1 (fun hh => ha2 (by (first | lia | omega)))]
        rfl
    · have hcond : ¬ (a < goal.length ∧ ((wh (goal.getD a 0)).any fun x => x == c) = true) := fun hh => by
        rw [test1 hh.1] at hh
        have := of_decide_eq_true hh.2
        exact h1 (by rw [this]; rfl)
      rw [if_neg hcond, hs2]
      by_cases h2 : F.length = 2
      · have n3 : ¬ (a + 3 ≤ goal.length ∧ F = (goal.drop a).take 3) := fun hh => by have := hlt 3 hh.2 hh.1; (first | lia | omega)
        rw [if_neg n3]
        by_cases q : a + 2 ≤ goal.length ∧ F = (goal.drop a).take 2
        · rw [if_pos q, piece 2 q.1 q.2]
          exact TK.read h t goal hwh hun r (a + 2) hr q.1
        · rw [if_neg q, nopiece 2 h2 q]; rfl
      · have h3 : F.length = 3 := by (first | lia | omega)
        have n2 : ¬ (a + 2 ≤ goal.length ∧ F = (goal.drop a).take 2) := fun hh => by have := hlt 2 hh.2 hh.1; (first | lia | omega)
        rw [if_neg n2]
        by_cases q : a + 3 ≤ goal.length ∧ F = (goal.drop a).take 3
        · rw [if_pos q, piece 3 q.1 q.2]
          exact TK.read h t goal hwh hun r (a + 3) hr q.1
        · rw [if_neg q, nopiece 3 h3 q]; rfl
end Mine
end

noncomputable section
open PySem PySem.W PyProof.Rows PySem.Calls PySem.Spec
set_option Elab.async false
set_option maxRecDepth 100000
set_option maxHeartbeats 0
set_option linter.all false
namespace Mine

noncomputable def lookD (done : List (Int × AV)) (c : Int) : AV := match done.find? (fun x => decide (x.1 = c)) with
  | some x => x.2
  | none => .none

/-- the map behind some puts -/
structure RInv (rows : List (Int × AV)) (done : List (Int × AV)) (lim : Int) : Prop where
  form : ∃ b0 s, rows = b0 ++ [(s, .none)] ∧ s ≤ lim
  sorted : (rows.map (·.1)).Pairwise (· < ·)
  pos : ∀ x ∈ rows, 0 ≤ x.1 ∧ x.1 ≤ lim
  one : oneLong rows
  live : liveR rows = done
  rep : ∀ c, 0 ≤ c → 0 < cnt (rows.map (·.1)) c ∧ ∃ s, rows[cnt (rows.map (·.1)) c - 1]? = some (s, lookD done c)
  lt : ∀ x ∈ done, x.1 < lim ∧ isSet x.2 = true

theorem RInv.start : RInv [(0, .none)] [] 0 where
  form := ⟨[], 0, rfl, Int.le_refl _⟩
  sorted := by simp
  pos := by simp
  one := rfl
  live := rfl
  rep := fun c hc => by
    have : cnt [(0 : Int)] c = 1 := by simp [cnt, hc]
    show 0 < cnt [(0 : Int)] c ∧ ∃ s, [((0 : Int), AV.none)][cnt [(0 : Int)] c - 1]? = some (s, lookD [] c)
    rw [this]
    exact ⟨by decide, 0, rfl⟩
  lt := by simp

theorem oneLong_app : ∀ (b : List (Int × AV)) (c : Int) (v : AV), oneLong (b ++ [(c, .none)]) → oneLong (b ++ [(c, v), (c + 1, .none)])
  | [], c, v, _ => ⟨fun zz1 => rfl, rfl⟩
  | [(s, x)], c, v, h => ⟨h.1, fun zz1 => rfl, rfl⟩
  | (s, x) :: (s2, x2) :: r, c, v, h => ⟨h.1, oneLong_app ((s2, x2) :: r) c v h.2⟩
theorem oneLong_none : ∀ (b : List (Int × AV)) (s c : Int) (v : AV), oneLong (b ++ [(s, .none)]) → oneLong (b ++ [(s, .none), (c, v), (c + 1, .none)])
  | [], s, c, v, _ => ⟨fun h => (nomatch h), fun zz1 => rfl, rfl⟩
  | [(s0, x)], s, c, v, h => ⟨h.1, fun h => (nomatch h), fun zz1 => rfl, rfl⟩
  | (s0, x) :: (s2, x2) :: r, s, c, v, h => ⟨h.1, oneLong_none ((s2, x2) :: r) s c v h.2⟩

theorem lookD_app (done : List (Int × AV)) (c : Int) (v : AV) (x : Int) (h : ∀ y ∈ done, y.1 < c) : lookD (done ++ [(c, v)]) x = if x = c then v else lookD done x := by
  unfold lookD
  rw [List.find?_append]
  by_cases hx : x = c
  · subst hx
    have : done.find? (fun y => decide (y.1 = x)) = none := by
      rw [List.find?_eq_none]; intro y hy
      have := h y hy
      simp; (first | lia | omega)
    simp [this]
  · have h2 : ¬ c = x := Ne.symm hx
    cases hf : done.find? (fun y => decide (y.1 = x)) with
    | none => simp [h2, hx]
    | some y => simp [hx]

theorem RInv.put {rows base done : List (Int × AV)} {lim c : Int} {v : AV} (R : RInv rows done lim) (hb : rows = base ∨ rows = base ++ [(c, .none)]) (hlt : ∀ x ∈ base, x.1 < c) (hc : lim ≤ c) (h0 : 0 ≤ c) (hv : isSet v = true) : RInv (base ++ [(c, v), (c + 1, .none)]) (done ++ [(c, v)]) (c + 1) := by
  have hbs : (base.map (·.1)).Pairwise (· < ·) := by
    rcases hb with rfl | rfl
    · exact R.sorted
    · have := R.sorted
      rw [List.map_append, List.pairwise_append] at this
      exact this.1
  have hbp : ∀ x ∈ base, 0 ≤ x.1 ∧ x.1 ≤ lim := fun x hx => R.pos x (by rcases hb with rfl | rfl; exact hx; exact List.mem_append.mpr (.inl hx))
  have hdl : ∀ y ∈ done, y.1 < c := fun y hy => Int.lt_of_lt_of_le (R.lt y hy).1 hc
  have hbl : liveR base = done := by
    rw [← R.live]
    rcases hb with rfl | rfl
    · rfl
    · simp [liveR, isSet]
  refine ⟨⟨base ++ [(c, v)], c + 1, by simp, Int.le_refl _⟩, ?_, ?_, ?_, ?_, ?_, ?_⟩
  · rw [List.map_append, List.pairwise_append]
    refine ⟨hbs, by simp; (first | lia | omega), ?_⟩
    intro x hx y hy
    obtain ⟨z, hz, rfl⟩ := List.mem_map.mp hx
    have := hlt z hz
    simp at hy
    rcases hy with rfl | rfl <;> (first | lia | omega)
  · intro x hx
    rcases List.mem_append.mp hx with hx | hx
    · have := hbp x hx; (first | lia | omega)
    · simp at hx
      rcases hx with rfl | rfl <;> simp <;> (first | lia | omega)
  · rcases hb with rfl | rfl
    · obtain ⟨b0, s, rfl, _⟩ := R.form
      have := oneLong_none b0 s c v R.one
      simpa using this
    · exact oneLong_app base c v R.one
  · have hvn : isSet AV.none = false := rfl
    rw [← hbl]
    simp [liveR, hv, hvn]
  · intro x hx
    rw [lookD_app done c v x hdl]
    have hcnt : cnt ((base ++ [(c, v), (c + 1, .none)]).map (·.1)) x = cnt (base.map (·.1)) x + ((if c ≤ x then 1 else 0) + (if c + 1 ≤ x then 1 else 0)) := by
      rw [List.map_append, cnt_app]
      congr 1
      simp [cnt, List.countP_cons]
      split <;> split <;> rfl
    rw [hcnt]
    rcases Int.lt_trichotomy x c with hxc | hxc | hxc
    · rw [if_neg (by (first | lia | omega)), if_neg (by (first | lia | omega)), if_neg (by (first | lia | omega))]
      have hold := R.rep x hx
      have hco : cnt (rows.map (·.1)) x = cnt (base.map (·.1)) x := by
        rcases hb with rfl | rfl
        · rfl
        · rw [List.map_append, cnt_app]
          have : cnt ([((c : Int), AV.none)].map (·.1)) x = 0 := by simp [cnt]; (first | lia | omega)
          (first | lia | omega)
      rw [hco] at hold
      obtain ⟨h1, s, hs⟩ := hold
      refine ⟨by (first | lia | omega), s, ?_⟩
      have hle := cnt_le (base.map (·.1)) x
      rw [List.length_map] at hle
      have hi : cnt (base.map (·.1)) x - 1 < base.length := by (first | lia | omega)
      have e1 : (base ++ [(c, v), (c + 1, AV.none)])[cnt (base.map (·.1)) x - 1]? = base[cnt (base.map (·.1)) x - 1]? := List.getElem?_append_left hi
      refine Eq.trans (show (base ++ [(c, v), (c + 1, AV.none)])[cnt (base.map (·.1)) x + (0 + 0) - 1]? = base[cnt (base.map (·.1)) x - 1]? from e1) ?_
      rcases hb with rfl | rfl
      · exact hs
      · rw [List.getElem?_append_left hi] at hs; exact hs
    · subst hxc
      have hall : cnt (base.map (·.1)) x = base.length := by
        rw [cnt_all, List.length_map]
        intro y hy
        obtain ⟨z, hz, rfl⟩ := List.mem_map.mp hy
        exact Int.le_of_lt (hlt z hz)
      rw [if_pos (Int.le_refl _), if_neg (by (first | lia | omega)), if_pos rfl, hall]
      refine ⟨by (first | lia | omega), x, ?_⟩
      have : base.length + (1 + 0) - 1 = base.length := by (first | lia | omega)
      rw [this, List.getElem?_append_right (Nat.le_refl _)]
      simp
    · have hall : cnt (base.map (·.1)) x = base.length := by
        rw [cnt_all, List.length_map]
        intro y hy
        obtain ⟨z, hz, rfl⟩ := List.mem_map.mp hy
        have := hlt z hz; (first | lia | omega)
      rw [if_pos (by (first | lia | omega)), if_pos (by (first | lia | omega)), if_neg (by (first | lia | omega)), hall]
      refine ⟨by (first | lia | omega), c + 1, ?_⟩
      have hnone : lookD done x = .none := by
        unfold lookD
        have : done.find? (fun y => decide (y.1 = x)) = none := by
          rw [List.find?_eq_none]; intro y hy
          have := hdl y hy
          simp; (first | lia | omega)
        rw [this]
      rw [hnone]
      have : base.length + (1 + 1) - 1 = base.length + 1 := by (first | lia | omega)
      rw [this, List.getElem?_append_right (by (first | lia | omega))]
      simp
  · intro x hx
    rcases List.mem_append.mp hx with hx | hx
    · have := R.lt x hx; exact ⟨by (first | lia | omega), this.2⟩
    · simp at hx; subst hx; exact ⟨by simp; (first | lia | omega), hv⟩

/-! ## the keys -/
theorem Extra.sub {cs ex} (h : Extra cs ex) : (ex.map (·.1)).Sublist cs := by
  induction h with
  | nil => exact .slnil
  | skip c cs r _ ih => exact ih.trans (List.sublist_append_left _ _)
  | take c cs r k x y z _ _ _ _ _ _ ih =>
    rw [List.map_append]
    exact List.Sublist.append ih (List.Sublist.refl _)
theorem TK.keys {T : Told} (h : TK T) : (T.map (·.1)).Sublist (told9.map (·.1) ++ [7296, 7304, 42570]) := by
  obtain ⟨ex, hT, hE⟩ := h
  have : T.map (·.1) = told9.map (·.1) ++ ex.map (·.1) := by
    have := congrArg (List.map (·.1)) hT
    simpa [Function.comp_def] using this
  rw [this]
  exact List.Sublist.append (List.Sublist.refl _) hE.sub
theorem TK.nd {T : Told} (h : TK T) : (T.map (·.1)).Nodup := h.keys.nodup (by decide +kernel)
theorem TK.klen {T : Told} (h : TK T) : (T.map (·.1)).length ≤ 12 := Nat.le_trans h.keys.length_le (by decide +kernel)
theorem TK.ne {T : Told} (h : TK T) : 65 ∈ T.map (·.1) := by
  obtain ⟨ex, hT, hE⟩ := h
  have : T.map (·.1) = told9.map (·.1) ++ ex.map (·.1) := by
    have := congrArg (List.map (·.1)) hT
    simpa [Function.comp_def] using this
  rw [this]
  exact List.mem_append.mpr (.inl (by decide +kernel))
theorem TK.adj {T : Told} (h : TK T) {a b : Int} (ha : a ∈ T.map (·.1)) (hb : b ∈ T.map (·.1)) (hab : b = a + 1) : a = 83 := by
  have ha := h.keys.mem ha
  have hb := h.keys.mem hb
  have : ∀ a ∈ (told9.map (·.1) ++ [7296, 7304, 42570]), ∀ b ∈ (told9.map (·.1) ++ [7296, 7304, 42570]), b = a + 1 → a = 83 := by decide +kernel
  exact this a ha b hb hab
noncomputable def keysOk (row : Row) : Prop := row ≠ [] ∧ ∀ p ∈ row, p.1 = kC ∨ p.1 = kF ∨ p.1 = kS ∨ p.1 = kT
theorem keysOk_rowK (k x y z) : keysOk (rowK k x y z) := by
  unfold rowK
  split <;> refine ⟨by simp, fun p hp => ?_⟩ <;> simp at hp
  · subst hp; exact .inl rfl
  · subst hp; exact .inr (.inl rfl)
  · rcases hp with rfl | rfl
    · exact .inr (.inr (.inl rfl))
    · exact .inr (.inl rfl)
  · rcases hp with rfl | rfl
    · exact .inl rfl
    · exact .inr (.inr (.inr rfl))
theorem keysOk9 : ∀ e ∈ told9, keysOk e.2 := by
  intro e he
  have : told9.all (fun e => !e.2.isEmpty && e.2.all fun p => p.1 == kC || p.1 == kF || p.1 == kS || p.1 == kT) = true := by decide +kernel
  have h1 := List.all_eq_true.mp this e he
  simp only [Bool.and_eq_true, Bool.or_eq_true, beq_iff_eq, List.all_eq_true] at h1
  refine ⟨fun h => by rw [h] at h1; exact absurd h1.1 (by decide), fun p hp => ?_⟩
  have := h1.2 p hp
  rcases this with ((h | h) | h) | h
  · exact .inl h
  · exact .inr (.inl h)
  · exact .inr (.inr (.inl h))
  · exact .inr (.inr (.inr h))
theorem TK.rowOk {T : Told} (h : TK T) {t} (ht : t ∈ T) : keysOk t.2.2 := by
  obtain ⟨ex, hT, hE⟩ := h
  have hm2 : (t.1, t.2.2) ∈ told9 ++ ex := by rw [← hT]; exact List.mem_map.mpr ⟨t, ht, rfl⟩
  rcases List.mem_append.mp hm2 with h9 | hx
  · exact keysOk9 _ h9
  · obtain ⟨k, x, y, z, e, _⟩ := hE.row _ hx
    have e' : t.2.2 = rowK k x y z := e
    rw [e']; exact keysOk_rowK k x y z
theorem TK.small {T : Told} (h : TK T) {t} (ht : t ∈ T) : ∀ g ∈ t.2.2, g.2.length ≤ 3 := by
  obtain ⟨ex, hT, hE⟩ := h
  have hm2 : (t.1, t.2.2) ∈ told9 ++ ex := by rw [← hT]; exact List.mem_map.mpr ⟨t, ht, rfl⟩
  rcases List.mem_append.mp hm2 with h9 | hx
  · exact fun g hg => (good9 _ h9 g hg).2.1
  · obtain ⟨k, x, y, z, e, h1, h2, h3⟩ := hE.row _ hx
    have e' : t.2.2 = rowK k x y z := e
    rw [e']
    exact fun g hg => (good_rowK k x y z h1 h2 h3 g hg).2.1
theorem keysOk.lk {row : Row} (h : keysOk row) {s : Str} (hs : s ≠ kC ∧ s ≠ kF ∧ s ≠ kS ∧ s ≠ kT) : look (rowA row) s = none := by
  rw [look_rowA]
  cases hl : Mine.look row s with
  | none => rfl
  | some g =>
    have := h.2 _ (look_mem hl)
    simp only at this
    rcases this with e | e | e | e
    · exact absurd e hs.1
    · exact absurd e hs.2.1
    · exact absurd e hs.2.2.1
    · exact absurd e hs.2.2.2
theorem keysOk.cf {row : Row} (h : keysOk row) : look (rowA row) "cf" = none := h.lk (by decide +kernel)
theorem keysOk.dflt {row : Row} (h : keysOk row) : look (rowA row) "default" = none := h.lk (by decide +kernel)
theorem keysOk.ne {row : Row} (h : keysOk row) : rowA row ≠ [] := fun e => h.1 (List.map_eq_nil_iff.mp e)

theorem findT_of {T : Told} {c : Int} (hc : c ∈ T.map (·.1)) : ∃ t, findT T c = some t := by
  cases hf : findT T c with
  | none =>
    obtain ⟨t, ht, rfl⟩ := List.mem_map.mp hc
    have := List.find?_eq_none.mp hf t ht
    simp at this
  | some t => exact ⟨t, rfl⟩
theorem TK.row83 {T : Told} (h : TK T) {t} (hf : findT T 83 = some t) : t.2.2 = [(kC, [115])] := by
  obtain ⟨hm, ht⟩ := findT_mem hf
  obtain ⟨ex, hT, hE⟩ := h
  have hm2 : (t.1, t.2.2) ∈ told9 ++ ex := by rw [← hT]; exact List.mem_map.mpr ⟨t, hm, rfl⟩
  rw [ht] at hm2
  rcases List.mem_append.mp hm2 with h9 | hx
  · have : ∀ e ∈ told9, e.1 = 83 → e.2 = [(kC, [115])] := by decide +kernel
    exact this _ h9 rfl
  · have := hE.mem _ hx
    have h2 : (83 : Int) ∉ ([7296, 7304, 42570] : List Int) := by decide
    exact absurd this h2
theorem TK.row84 {T : Told} (h : TK T) {t} (hf : findT T 84 = some t) : t.2.2 = [(kC, [116])] := by
  obtain ⟨hm, ht⟩ := findT_mem hf
  obtain ⟨ex, hT, hE⟩ := h
  have hm2 : (t.1, t.2.2) ∈ told9 ++ ex := by rw [← hT]; exact List.mem_map.mpr ⟨t, hm, rfl⟩
  rw [ht] at hm2
  rcases List.mem_append.mp hm2 with h9 | hx
  · have : ∀ e ∈ told9, e.1 = 84 → e.2 = [(kC, [116])] := by decide +kernel
    exact this _ h9 rfl
  · have := hE.mem _ hx
    have h2 : (84 : Int) ∉ ([7296, 7304, 42570] : List Int) := by decide
    exact absurd this h2

/-- the told codes, ascending -/
noncomputable def csOf (T : Told) : List Int := srt (T.map (·.1))
theorem csOf_mem {T : Told} {c : Int} : c ∈ csOf T ↔ c ∈ T.map (·.1) := (srt_perm _).mem_iff
theorem TK.codesOk {T : Told} (h : TK T) : Codes T (csOf T) := ⟨(srt_perm _).nodup_iff.mpr h.nd, fun zz1 => csOf_mem⟩
theorem TK.cs_sorted {T : Told} (h : TK T) : (csOf T).Pairwise (· < ·) := (List.Pairwise.and (srt_sorted (T.map (·.1))) (show List.Pairwise (· ≠ ·) (srt (T.map (·.1))) from h.codesOk.nd)).imp (fun {a b} h => by have h1 := h.1; have h2 := h.2; (first | lia | omega))
theorem TK.cs_len {T : Told} (h : TK T) : (csOf T).length ≤ 12 := by
  have := h.klen
  rw [← (srt_perm (T.map (·.1))).length_eq] at this
  exact this
theorem TK.cs_pos {T : Told} (h : TK T) {c : Int} (hc : c ∈ csOf T) : 65 ≤ c ∧ c < 1000000 := by
  have := h.keys.mem (csOf_mem.mp hc)
  have h2 : ∀ a ∈ (told9.map (·.1) ++ [7296, 7304, 42570]), 65 ≤ a ∧ a < 1000000 := by decide +kernel
  exact h2 c this

theorem lookD_map (f : Int → AV) : ∀ (cs : List Int) (c : Int), (c ∉ cs → f c = .none) → lookD (cs.map fun c => (c, f c)) c = f c
  | [], c, h => (h (by simp)).symm
  | a :: r, c, h => by
    unfold lookD
    by_cases hac : a = c
    · subst hac; simp
    · have := lookD_map f r c (fun hc => h (by simp [hc, Ne.symm hac]))
      unfold lookD at this
      simpa [hac] using this

/-- the data behind i puts -/
structure PInv (σ0 σ : St) (D0 : DL) (T : Told) (i : Nat) (D : DL) (rows : List (Int × AV)) : Prop where
  keeps : Keeps (fun y => y = D0.m) σ0 σ
  any : DRany σ D rows
  ld : D.ld = D0.ld
  m : D.m = D0.m
  lm : DR σ D rows → σ0.n ≤ D.lm ∧ σ0.n ≤ D.a ∧ σ0.n ≤ D.b
  inv : ∃ lim, RInv rows (((csOf T).take i).map fun c => (c, valT T c)) lim ∧ ((i = 0 ∧ rows = [(0, .none)] ∧ lim = 0) ∨ ∃ j b c', i = j + 1 ∧ (csOf T)[j]? = some c' ∧ rows = b ++ [(c', valT T c'), (c' + 1, .none)] ∧ lim = c' + 1)
  len : rows.length ≤ 2 * i + 1

theorem PInv.start {σ : St} {D : DL} {T : Told} (wf : WF σ) (R : DR0 σ D) : PInv σ σ D T 0 D [(0, .none)] where
  keeps := Keeps.refl wf
  any := .inr ⟨R, rfl⟩
  ld := rfl
  m := rfl
  lm := fun h => by
    have h1 := h.mp
    rw [R.mp] at h1
    cases h1
  inv := ⟨0, RInv.start, .inl ⟨rfl, rfl, rfl⟩⟩
  len := Nat.le_refl _

theorem TK.rowAt {σ0 σ : St} {D0 : DL} {T : Told} {lt : Nat} (h : TK T) (wf : WF σ0) (R0 : DR0 σ0 D0) (R : ToldR σ0 lt T) (K : Keeps (fun y => y = D0.m) σ0 σ) {t} (ht : t ∈ T) : σ.obj t.2.1 = some (.dS (rowA t.2.2)) :=
  K.at wf (R.rows t ht) (obj_ne (R.rows t ht) R0.mp (by intro e; injection e with e; exact (h.rowOk ht).ne e))

theorem PInv.step {σ0 σ : St} {D0 : DL} {T : Told} {i : Nat} {D : DL} {rows : List (Int × AV)} {lt : Nat} {c : Int} {P : AV → St → Prop} (hT : TK T) (wf : WF σ0) (R0 : DR0 σ0 D0) (R : ToldR σ0 lt T) (I : PInv σ0 σ D0 T i D rows) (hc : (csOf T)[i]? = some c)
    (q : ∀ σ' D' rows', PInv σ0 σ' D0 T (i + 1) D' rows' → P .none σ') : gDPut [.inst 248 D0.ld, .str "cf", .int c, .int c, valT T c] σ P := by
  obtain ⟨lim, RI, hcase⟩ := I.inv
  have hi := (List.getElem?_eq_some_iff.mp hc).1
  have hcs := List.mem_of_getElem? hc
  have hpos := hT.cs_pos hcs
  obtain ⟨t, hf⟩ := findT_of (csOf_mem.mp hcs)
  obtain ⟨htm, ht1⟩ := findT_mem hf
  have hv : valT T c = .ref t.2.1 := by unfold valT; rw [hf]
  have et := hT.rowAt wf R0 R I.keeps htm
  have hk := hT.rowOk htm
  have hcl := hT.cs_len
  -- the base
  obtain ⟨base, b0, s0, u, hbase, hrows, hsort, hlt, hlim, hplain, heq, href, hbl⟩ : ∃ base b0 s0 u, base = b0 ++ [(s0, u)] ∧ ((rows = base ∧ u = .none) ∨ rows = base ++ [(c, .none)]) ∧ (base.map (·.1)).Pairwise (· < ·) ∧ (∀ x ∈ base, x.1 < c) ∧ lim ≤ c ∧ plainV u σ ∧ EqR σ u (.ref t.2.1) false ∧
      (∀ r, u = .ref r → ∃ row, σ.obj r = some (.dS row) ∧ row ≠ [] ∧ look row "cf" = none ∧ look row "default" = none) ∧ base.length ≤ rows.length := by
    rcases hcase with ⟨rfl, rfl, rfl⟩ | ⟨j, b, c', rfl, hc', rfl, rfl⟩
    · exact ⟨_, [], 0, .none, rfl, .inl ⟨rfl, rfl⟩, by simp, by simp; (first | lia | omega), by (first | lia | omega), .inl rfl, .noneD _ ⟨_, _, rfl, et⟩, fun r h => (nomatch h), Nat.le_refl _⟩
    · have hcs' := List.mem_of_getElem? hc'
      have hcc : c' < c := by
        obtain ⟨h1, h2⟩ := List.getElem?_eq_some_iff.mp hc'
        obtain ⟨h3, h4⟩ := List.getElem?_eq_some_iff.mp hc
        have := List.pairwise_iff_getElem.mp hT.cs_sorted j (j + 1) h1 h3 (Nat.lt_succ_self _)
        rw [h2, h4] at this; exact this
      by_cases hadj : c = c' + 1
      · obtain rfl := hT.adj (csOf_mem.mp hcs') (csOf_mem.mp hcs) hadj
        have hc84 : c = 84 := hadj
        subst hc84
        obtain ⟨t', hf'⟩ := findT_of (csOf_mem.mp hcs')
        obtain ⟨htm', ht1'⟩ := findT_mem hf'
        have hv' : valT T 83 = .ref t'.2.1 := by unfold valT; rw [hf']
        have et' := hT.rowAt wf R0 R I.keeps htm'
        have hk' := hT.rowOk htm'
        have e1 := hT.row83 hf'
        have e2 := hT.row84 hf
        have hs := RI.sorted
        have e3 : b ++ [(83, valT T 83), (83 + 1, AV.none)] = (b ++ [(83, valT T 83)]) ++ [(84, .none)] := by simp
        rw [e3, List.map_append, List.pairwise_append] at hs
        refine ⟨b ++ [(83, valT T 83)], b, 83, valT T 83, rfl, .inr e3, hs.1, fun x hx => ?_, by (first | lia | omega), ?_, ?_, fun r hr => ?_, by simp⟩
        · exact hs.2.2 x.1 (List.mem_map.mpr ⟨x, hx, rfl⟩) 84 (by simp)
        · rw [hv']; exact .inr ⟨_, _, rfl, et'⟩
        · rw [hv']
          rw [e1] at et'
          rw [e2] at et
          have := EqR.dd (σ := σ) t'.2.1 t.2.1 kC kC [115] [116] (obj_ne et' et (by intro h; injection h with h; simp [rowA] at h)) et' et
          have e4 : decide (kC = kC ∧ ([115] : List Int) = [116]) = false := by simp
          rw [e4] at this
          exact this
        · rw [hv'] at hr
          injection hr with hr
          subst hr
          exact ⟨_, et', hk'.ne, hk'.cf, hk'.dflt⟩
      · refine ⟨_, b ++ [(c', valT T c')], c' + 1, .none, by simp, .inl ⟨rfl, rfl⟩, RI.sorted, fun x hx => ?_, by (first | lia | omega), .inl rfl, .noneD _ ⟨_, _, rfl, et⟩, fun r h => (nomatch h), Nat.le_refl _⟩
        have := (RI.pos x hx).2
        (first | lia | omega)
  refine ⟨D, rows, base, b0, s0, u, c, valT T c, by rw [I.ld], I.any, hbase, hrows, hsort, hlt, hplain, by rw [hv]; exact heq, ⟨t.2.1, _, hv, hk.ne, et, hk.cf, hk.dflt⟩, href, by (first | lia | omega), by (first | lia | omega), ?_, ?_⟩
  · have := I.len; (first | lia | omega)
  intro σ' D' K hld hm hlm ha hb RD
  have hlm' : σ0.n ≤ D'.lm := by
    rcases hlm with ⟨h1, h2⟩ | h
    · rw [h2]; exact (I.lm h1).1
    · exact Nat.le_trans I.keeps.le h
  refine q σ' D' (base ++ [(c, valT T c), (c + 1, .none)]) ⟨⟨K.wf, Nat.le_trans I.keeps.le K.le, fun y hy hw => ?_⟩, .inl RD, hld.trans I.ld, hm.trans I.m, fun zz1 => ⟨hlm', Nat.le_trans I.keeps.le ha, Nat.le_trans I.keeps.le hb⟩, ⟨c + 1, ?_, .inr ⟨i, base, c, rfl, hc, rfl, rfl⟩⟩, ?_⟩
  · rw [K.same y (Nat.lt_of_lt_of_le hy I.keeps.le) ?_, I.keeps.same y hy hw]
    rintro (h | ⟨h1, h2⟩)
    · exact hw (h.trans I.m)
    · have := (I.lm h1).1; (first | lia | omega)
  · have := RI.put (c := c) (v := valT T c) (base := base) (by rcases hrows with ⟨h, _⟩ | h; exact .inl h; exact .inr h) hlt hlim (by (first | lia | omega)) (by rw [hv]; rfl)
    rw [List.take_add_one, hc]
    simpa using this
  · have := I.len
    simp only [List.length_append, List.length_cons, List.length_nil]
    rcases hrows with ⟨h, _⟩ | h
    · rw [h] at this; (first | lia | omega)
    · rw [h] at this
      simp at this; (first | lia | omega)

theorem PInv.done {σ0 σ : St} {D0 : DL} {T : Told} {D : DL} {rows : List (Int × AV)} {lt : Nat} (hT : TK T) (wf : WF σ0) (R0 : DR0 σ0 D0) (R : ToldR σ0 lt T) (I : PInv σ0 σ D0 T (csOf T).length D rows) :
    DB σ D T rows ∧ oneLong rows ∧ (liveR rows).map (·.1) = csOf T ∧ (∀ x ∈ rows, 0 ≤ x.1 ∧ x.1 < 10000000) ∧ (∀ x ∈ rows, x.2 = .none ∨ ∃ y kk, x.2 = .ref y ∧ σ.obj y = some (.dS kk)) ∧ rows.length ≤ 30 ∧ σ0.n ≤ D.lm ∧ σ0.n ≤ D.a ∧ σ0.n ≤ D.b := by
  obtain ⟨lim, RI, hcase⟩ := I.inv
  have hcl := hT.cs_len
  have hlen := I.len
  rw [List.take_length] at RI
  have h65 : 0 < (csOf T).length := List.length_pos_of_mem (csOf_mem.mpr hT.ne)
  have hlim : lim ≤ 1000000 := by
    rcases hcase with ⟨h, _⟩ | ⟨j, b, c', h, hc', _, rfl⟩
    · (first | lia | omega)
    · have := (hT.cs_pos (List.mem_of_getElem? hc')).2; (first | lia | omega)
  have hDR : DR σ D rows := by
    rcases I.any with h | ⟨_, h⟩
    · exact h
    · rcases hcase with ⟨h0, _⟩ | ⟨j, b, c', _, _, h2, _⟩
      · (first | lia | omega)
      · rw [h2] at h
        have := congrArg List.length h
        simp at this
  have hlive : ∀ x ∈ rows, x.2 = .none ∨ ∃ c ∈ csOf T, x.2 = valT T c := by
    intro x hx
    cases hs : isSet x.2 with
    | false => left; revert hs; cases x.2 <;> intro h <;> first | rfl | cases h
    | true =>
      right
      have : x ∈ liveR rows := List.mem_filter.mpr ⟨hx, hs⟩
      rw [RI.live] at this
      obtain ⟨c, hc, rfl⟩ := List.mem_map.mp this
      exact ⟨c, hc, rfl⟩
  refine ⟨⟨hDR, RI.sorted, by (first | lia | omega), fun c hc => ?_, fun t ht => hT.rowAt wf R0 R I.keeps ht, fun t ht => hT.small ht⟩, RI.one, ?_, fun x hx => ?_, fun x hx => ?_, by (first | lia | omega), I.lm hDR⟩
  · have := RI.rep c hc
    rw [lookD_map (valT T) (csOf T) c (fun hn => ?_)] at this
    · exact this
    · unfold valT
      cases hf : findT T c with
      | none => rfl
      | some t =>
        obtain ⟨h1, h2⟩ := findT_mem hf
        exact absurd (csOf_mem.mpr (List.mem_map.mpr ⟨t, h1, h2⟩)) hn
  · rw [RI.live, List.map_map]
    simp [Function.comp_def]
  · have := RI.pos x hx
    exact ⟨this.1, by (first | lia | omega)⟩
  · rcases hlive x hx with h | ⟨c, hc, h⟩
    · exact .inl h
    · obtain ⟨t, hf⟩ := findT_of (csOf_mem.mp hc)
      refine .inr ⟨t.2.1, _, ?_, hT.rowAt wf R0 R I.keeps (findT_mem hf).1⟩
      rw [h]; unfold valT; rw [hf]
end Mine
end

noncomputable section
open PySem PySem.W PyProof.Rows PySem.Calls PySem.Spec
set_option Elab.async false
set_option maxRecDepth 100000
set_option maxHeartbeats 0
set_option linter.all false
namespace Mine

theorem SimSs.weakenW {C : Ctx} {S : Sc} {d : Nat} {sts : List Stmt} {F G : FS} (H : SimSs C S d sts F) (h : ∀ ρ σ P, WF σ → G ρ σ P → F ρ σ P) : SimSs C S d sts G :=
  ⟨fun A env s μ ρ σ P Q E p g k => H.go A env s μ ρ σ P Q E p (h ρ σ P (fun l o e => p.r.lt l o e) g) k⟩

/-! ## what the law holds -/
noncomputable def ApW (D : DL) (T : Told) (lw sp : Nat) : Prop := ∀ y, (y = D.ld ∨ y = D.m ∨ y = D.lm ∨ y = D.a ∨ y = D.b ∨ ∃ t ∈ T, y = t.2.1) → ¬ WW lw sp y
structure Wd (σ : St) (lw sp lt li nb : Nat) (D : DL) (T : Told) (tk : Bool) : Prop where
  wheel : Wheel σ lw sp
  told : ToldR σ lt T
  db : ∃ rows, DB σ D T rows
  ap : ApW D T lw sp
  ix : ∃ o1 om ow m1 mm mw k, IX σ li D.ld tk o1 om ow m1 mm mw nb k ∧ k ≤ 60 ∧ (∀ g, getM mm g = wantM T tk (csOf T) g) ∧ (∀ g, getM mw g = wantW T tk (csOf T) g)
  lw_ : lw < nb
  sp_ : sp < nb
  li_ : nb ≤ li

section
variable {σ σ' : St} {lw sp lt li nb : Nat} {D : DL} {T : Told} {tk : Bool}
theorem Wd.notW (x : Wd σ lw sp lt li nb D T tk) {y : Nat} (h : nb ≤ y) : ¬ WW lw sp y := fun z => by
  have := x.lw_
  have := x.sp_
  rcases z with z | z <;> (first | lia | omega)
theorem Wd.step (x : Wd σ lw sp lt li nb D T tk) (wf : WF σ) (K : Keeps (WW lw sp) σ σ') (W : Wheel σ' lw sp) : Wd σ' lw sp lt li nb D T tk := by
  obtain ⟨o1, om, ow, m1, mm, mw, k, X, r⟩ := x.ix
  obtain ⟨rows, B⟩ := x.db
  refine ⟨W, x.told.wheel wf x.wheel K, ⟨rows, B.keeps wf K x.ap⟩, x.ap, ⟨o1, om, ow, m1, mm, mw, k, X.keeps wf K fun y hy => ?_, r⟩, x.lw_, x.sp_, x.li_⟩
  rcases hy with rfl | hy
  · exact x.notW x.li_
  · exact x.notW hy
theorem Wd.keep0 (x : Wd σ lw sp lt li nb D T tk) (wf : WF σ) (K : Keeps NoW σ σ') : Wd σ' lw sp lt li nb D T tk := x.step wf K.off (x.wheel.keep0 wf K)
theorem Wd.idx (x : Wd σ lw sp lt li nb D T tk) : IDX σ li T tk (csOf T) := by
  obtain ⟨o1, om, ow, m1, mm, mw, k, X, r⟩ := x.ix
  obtain ⟨rows, B⟩ := x.db
  exact ⟨D, rows, o1, om, ow, m1, mm, mw, nb, k, X, B, r⟩
theorem Wd.nbn (x : Wd σ lw sp lt li nb D T tk) (wf : WF σ) : nb < σ.n := by
  obtain ⟨o1, om, ow, m1, mm, mw, k, X, r⟩ := x.ix
  exact Nat.lt_of_le_of_lt x.li_ (wf _ _ X.at_)
theorem Wd.at_ (x : Wd σ lw sp lt li nb D T tk) (wf : WF σ) (K : Keeps (WW lw sp) σ σ') {l : Nat} {o : AO} (h : nb ≤ l) (e : σ.obj l = some o) : σ'.obj l = some o := K.at wf e (x.notW h)
theorem Wd.ie (x : Wd σ lw sp lt li nb D T tk) {name : Str} (h : look [(Str.ofString "data", AV.none), ("simple", .none), ("full", .none), ("to_one", .none), ("to_many", .none), ("to_whole", .none)] name = none) : ∃ l kvs, AV.inst 199 li = .inst 199 l ∧ σ.obj l = some (.dS kvs) ∧ look kvs name = none := by
  obtain ⟨o1, om, ow, m1, mm, mw, k, X, r⟩ := x.ix
  refine ⟨li, _, rfl, X.at_, ?_⟩
  have key : ∀ a b c d e f : AV, look [(Str.ofString "data", a), (Str.ofString "simple", b), (Str.ofString "full", c), (Str.ofString "to_one", d), (Str.ofString "to_many", e), (Str.ofString "to_whole", f)] name = none := by
    intro a b c d e f
    unfold look at h ⊢
    rw [Option.map_eq_none_iff] at h ⊢
    rw [List.find?_eq_none] at h ⊢
    intro y hy
    have hk : ∃ z, (y.1, z) ∈ [(Str.ofString "data", AV.none), ("simple", .none), ("full", .none), ("to_one", .none), ("to_many", .none), ("to_whole", .none)] := by
      simp only [List.mem_cons, List.not_mem_nil, or_false] at hy
      rcases hy with rfl | rfl | rfl | rfl | rfl | rfl <;> exact ⟨.none, by simp⟩
    obtain ⟨z, hz⟩ := hk
    exact h (y.1, z) hz
  exact key _ _ _ _ _ _
end

structure Vs (ρ : Rho) (lw lt li ld : Nat) (tk : Bool) : Prop where
  r1 : ρ 1 = some (.ref lw)
  r2 : ρ 2 = some (.inst 248 ld)
  r3 : ρ 3 = some (.ref lt)
  r4 : ρ 4 = some (.bool tk)
  r6 : ρ 6 = some (.inst 199 li)
theorem TK.wlen {T : Told} (h : TK T) (tk : Bool) (c : Int) : (wholeP T tk (csOf T) c).length ≤ 50 := by
  have h1 := h.cs_len
  unfold wholeP
  rw [(srt_perm _).length_eq, List.length_append]
  have h2 : (wantW T tk (csOf T) c).length ≤ (csOf T).length := List.length_filter_le _ _
  split <;> simp <;> (first | lia | omega)

/-! ## comprehensions -/
theorem copyRows {k : Nat} {P : Rho → St → Prop} {ok : St → Prop} {σ : St} {la : Nat} {vs : List AV} {nss : List (List Int)} {ρ : Rho} (wf : WF σ) (hla : σ.obj la = some (.list [])) (hr : RowsQ (fun l => l < la) σ vs nss) (hlen : vs.length ≤ 100000) (hns : ∀ ns ∈ nss, ns.length ≤ 1000)
    (hok : ∀ σ', Keeps (fun y => y = la) σ σ' → ok σ') (fin : ∀ ρ' σ' ws, Keeps (fun y => y = la) σ σ' → σ'.obj la = some (.list ws) → RowsQ (fun l => la < l) σ' ws nss → P ρ' σ') :
    compL k yes (emit la (fun ρ σ P => ∃ v, ρ k = some v ∧ gListOf [v] σ P)) ok vs ρ σ P := by
  have hl := wf _ _ hla
  refine compL_all vs (fun i ρ' σ' => Keeps (fun y => y = la) σ σ' ∧ ∃ ws, σ'.obj la = some (.list ws) ∧ RowsQ (fun l => la < l) σ' ws (nss.take i)) ?_ ?_ ⟨Keeps.refl wf, [], hla, .nil⟩
  · rintro i v ρ' σ' Q Q2 hv ⟨K, ws, ew, RW⟩ hf ht hn2
    obtain ⟨l, ns, rfl, hns2, hll, el⟩ := hr.get hv
    refine ht σ' ?_
    have el' := K.at wf el (Nat.ne_of_lt hll)
    have hw : ws.length ≤ 100000 := by
      rw [RW.length, List.length_take]
      have := hr.length
      (first | lia | omega)
    have hlt : la < σ'.n := K.wf _ _ ew
    have hn1 := hns ns (List.mem_of_getElem? hns2)
    refine ⟨.ref l, by simp [upd], .ref l, intsA ns, rfl, .inr ⟨l, rfl, el'⟩, by simp; (first | lia | omega), ws, push_old K.wf ew, by (first | lia | omega), ?_⟩
    have K1 := K.pushI (o := .list (intsA ns))
    have K2 := K1.setI (o := .list (ws ++ [.ref σ'.n])) (k := la) (by show la < σ'.n + 1; (first | lia | omega)) fun zz1 => rfl
    refine hn2 _ _ ⟨K2, _, set_self, ?_⟩ (hok _ K2)
    rw [List.take_add_one, hns2]
    refine RowsQ.app (RW.mono (fun zz1 zz2 h => h) K.wf fun y x hy e => set_other (push_old K.wf e) (Nat.ne_of_gt hy)) ?_
    exact .cons σ'.n [] ns [] hlt (set_other push_new (Nat.ne_of_gt hlt)) .nil
  · rintro ρ' σ' ⟨K, ws, ew, RW⟩
    rw [hr.length, List.take_length] at RW
    exact fin ρ' σ' ws K ew RW

/-- ints drawn from a list -/
theorem drawL {P : Rho → St → Prop} {σ : St} {la lw sp : Nat} {L : List Int} {b t : Int} {ρ : Rho} (hb : b = L.length) (hb0 : 0 < L.length) (hb1 : L.length < 1000) (ht1 : t ≤ 1000) (wf : WF σ) (hla : σ.obj la = some (.list [])) (W : Wheel σ lw sp) (hlw : lw < la) (hsp : sp < la) (r1 : ρ 1 = some (.ref lw))
    (fin : ∀ ρ' σ' ls, Keeps (fun y => y = la ∨ WW lw sp y) σ σ' → Wheel σ' lw sp → σ'.obj la = some (.list (intsA ls)) → ls.length = t.toNat → (∀ x ∈ ls, x ∈ L) → P ρ' σ') :
    compL 40 yes (emit la (fun ρ σ P => ∃ v, ρ 1 = some v ∧ gTurn [v, .int b] σ fun w σ => gItem (.tup (intsA L)) w σ P)) (fun zz1 => True) (rngInts 0 t) ρ σ P := by
  have hl := wf _ _ hla
  have hlen : (rngInts 0 t).length = t.toNat := by simp [rngInts]
  refine compL_all (rngInts 0 t) (fun i ρ' σ' => Keeps (fun y => y = la ∨ WW lw sp y) σ σ' ∧ Wheel σ' lw sp ∧ ρ' 1 = some (.ref lw) ∧ ∃ ls, σ'.obj la = some (.list (intsA ls)) ∧ ls.length = i ∧ ∀ x ∈ ls, x ∈ L) ?_ ?_ ⟨Keeps.refl wf, W, r1, [], hla, rfl, by simp⟩
  · rintro i v ρ' σ' Q Q2 hv ⟨K, W', s1, ls, el, hll, hlm⟩ hf ht hn2
    have hi := (List.getElem?_eq_some_iff.mp hv).1
    rw [hlen] at hi
    refine ht σ' ?_
    refine ⟨_, s1, lw, sp, b, rfl, W', by (first | lia | omega), by (first | lia | omega), fun σ4 w K4 W4 hw0 hwb => ?_⟩
    have el4 := K4.at K.wf el fun h => by rcases h with h | h <;> (first | lia | omega)
    have htn : w.toNat < L.length := by (first | lia | omega)
    refine ⟨hw0, by (first | lia | omega), .int L[w.toNat], by rw [List.getElem?_map, List.getElem?_eq_getElem htn]; rfl, _, el4, by rw [List.length_map]; (first | lia | omega), ?_⟩
    have hlt4 : la < σ4.n := K4.wf _ _ el4
    have KA : Keeps (fun y => y = la ∨ WW lw sp y) σ (σ4.set la (.list (intsA ls ++ [.int L[w.toNat]]))) := (K.trans (K4.mono fun y zz1 h => .inr h)).setI hlt4 fun zz1 => .inl rfl
    refine hn2 _ _ ⟨KA, ?_, s1, ls ++ [L[w.toNat]], by rw [set_self]; simp, by simp [hll], ?_⟩ trivial
    · obtain ⟨rr, ns, e1, e2, h⟩ := W4.ex
      exact ⟨rr, ns, set_other e1 (by (first | lia | omega)), set_other e2 (by (first | lia | omega)), h⟩
    · intro x hx
      rcases List.mem_append.mp hx with hx | hx
      · exact hlm x hx
      · simp at hx; rw [hx]; exact List.getElem_mem htn
  · rintro ρ' σ' ⟨K, W', s1, ls, el, hll, hlm⟩
    rw [hlen] at hll
    exact fin ρ' σ' ls K W' el hll hlm

/-- the folds of some codes -/
theorem foldsL {P : Rho → St → Prop} {ok : St → Prop} {σ : St} {la lt : Nat} {T : Told} {tk : Bool} {cs : List Int} {ρ : Rho} (wf : WF σ) (hla : σ.obj la = some (.list [])) (R : ToldR σ lt T) (hll : ∀ y, (y = lt ∨ ∃ t ∈ T, y = t.2.1) → y ≠ la) (r3 : ρ 3 = some (.ref lt)) (r4 : ρ 4 = some (.bool tk)) (hz : cs.length ≤ 1000)
    (hok : ∀ σ', Keeps (fun y => y = la) σ σ' → ok σ') (fin : ∀ ρ' σ', Keeps (fun y => y = la) σ σ' → σ'.obj la = some (.list (cs.map fun c => .tup (intsA (foldT T (stsOf true tk) c)))) → P ρ' σ') :
    compL 40 yes (emit la (fun ρ σ P => ∃ v, ρ 3 = some v ∧ ∃ v_1, ρ 4 = some v_1 ∧ ∃ v_2, ρ 40 = some v_2 ∧ gLawFold [v, v_1, v_2] σ P)) ok (intsA cs) ρ σ P := by
  have hl := wf _ _ hla
  refine compL_all (intsA cs) (fun i ρ' σ' => Keeps (fun y => y = la) σ σ' ∧ ρ' 3 = some (.ref lt) ∧ ρ' 4 = some (.bool tk) ∧ σ'.obj la = some (.list ((cs.take i).map fun c => .tup (intsA (foldT T (stsOf true tk) c))))) ?_ ?_ ⟨Keeps.refl wf, r3, r4, hla⟩
  · rintro i v ρ' σ' Q Q2 hv ⟨K, s3, s4, el⟩ hf ht hn2
    rw [List.getElem?_map] at hv
    cases hx : cs[i]? with
    | none => rw [hx] at hv; cases hv
    | some c =>
      rw [hx] at hv; cases hv
      refine ht σ' ?_
      have R' : ToldR σ' lt T := ⟨K.at wf R.at_ (hll _ (.inl rfl)), fun t ht => K.at wf (R.rows t ht) (hll _ (.inr ⟨t, ht, rfl⟩))⟩
      refine ⟨_, s3, _, s4, .int c, by simp [upd], lt, T, tk, c, rfl, R', fun σ2 K2 => ?_⟩
      have el2 := K2.mono' K.wf _ _ el
      have hi := (List.getElem?_eq_some_iff.mp hx).1
      refine ⟨_, el2, by simp; (first | lia | omega), ?_⟩
      have K3 := (K.trans K2.off).setI (o := .list (((cs.take i).map fun c => AV.tup (intsA (foldT T (stsOf true tk) c))) ++ [.tup (intsA (foldT T (stsOf true tk) c))])) (K2.wf _ _ el2) fun zz1 => rfl
      refine hn2 _ _ ⟨K3, s3, s4, ?_⟩ (hok _ K3)
      rw [set_self, List.take_add_one, hx]; simp
  · rintro ρ' σ' ⟨K, s3, s4, el⟩
    rw [List.length_map, List.take_length] at el
    exact fin ρ' σ' K el

/-- each int as a tuple -/
theorem onesL {P : Rho → St → Prop} {ok : St → Prop} {σ : St} {la : Nat} {cs : List Int} {ρ : Rho} (wf : WF σ) (hla : σ.obj la = some (.list [])) (hz : cs.length ≤ 1000)
    (hok : ∀ σ', Keeps (fun y => y = la) σ σ' → ok σ') (fin : ∀ ρ' σ', Keeps (fun y => y = la) σ σ' → σ'.obj la = some (.list (cs.map fun c => .tup (intsA [c]))) → P ρ' σ') :
    compL 40 yes (emit la (fun ρ σ P => ∃ v, ρ 40 = some v ∧ P (.tup [v]) σ)) ok (intsA cs) ρ σ P := by
  have hl := wf _ _ hla
  refine compL_all (intsA cs) (fun i ρ' σ' => Keeps (fun y => y = la) σ σ' ∧ σ'.obj la = some (.list ((cs.take i).map fun c => .tup (intsA [c])))) ?_ ?_ ⟨Keeps.refl wf, hla⟩
  · rintro i v ρ' σ' Q Q2 hv ⟨K, el⟩ hf ht hn2
    rw [List.getElem?_map] at hv
    cases hx : cs[i]? with
    | none => rw [hx] at hv; cases hv
    | some c =>
      rw [hx] at hv; cases hv
      refine ht σ' ?_
      have hi := (List.getElem?_eq_some_iff.mp hx).1
      refine ⟨.int c, by simp [upd], _, el, by simp; (first | lia | omega), ?_⟩
      have K3 := K.setI (o := .list (((cs.take i).map fun c => AV.tup (intsA [c])) ++ [.tup [.int c]])) (K.wf _ _ el) fun zz1 => rfl
      refine hn2 _ _ ⟨K3, ?_⟩ (hok _ K3)
      rw [set_self, List.take_add_one, hx]; simp
  · rintro ρ' σ' ⟨K, el⟩
    rw [List.length_map, List.take_length] at el
    exact fin ρ' σ' K el

/-- ints of a tuple, appended -/
theorem innerL {P : Rho → St → Prop} {σ : St} {la : Nat} {pre g : List Int} {ρ : Rho} {I : Rho → Prop} (hI : ∀ ρ v, I ρ → I (upd ρ 41 v)) (wf : WF σ) (hla : σ.obj la = some (.list (intsA pre))) (hz : pre.length + g.length ≤ 10000) (h0 : I ρ)
    (fin : ∀ ρ' σ', I ρ' → Keeps (fun y => y = la) σ σ' → σ'.obj la = some (.list (intsA (pre ++ g))) → P ρ' σ') :
    compL 41 yes (emit la (fun ρ σ P => ∃ v, ρ 41 = some v ∧ P v σ)) (fun zz1 => True) (intsA g) ρ σ P := by
  refine compL_all (intsA g) (fun i ρ' σ' => I ρ' ∧ Keeps (fun y => y = la) σ σ' ∧ σ'.obj la = some (.list (intsA (pre ++ g.take i)))) ?_ ?_ ⟨h0, Keeps.refl wf, by simpa using hla⟩
  · rintro i v ρ' σ' Q Q2 hv ⟨hi0, K, el⟩ hf ht hn2
    rw [List.getElem?_map] at hv
    cases hx : g[i]? with
    | none => rw [hx] at hv; cases hv
    | some c =>
      rw [hx] at hv; cases hv
      refine ht σ' ?_
      have hi := (List.getElem?_eq_some_iff.mp hx).1
      refine ⟨.int c, by simp [upd], _, el, by simp; (first | lia | omega), ?_⟩
      have K3 := K.setI (o := .list (intsA (pre ++ g.take i) ++ [.int c])) (K.wf _ _ el) fun zz1 => rfl
      refine hn2 _ _ ⟨hI _ _ hi0, K3, ?_⟩ trivial
      rw [set_self, List.take_add_one, hx]; simp
  · rintro ρ' σ' ⟨hi0, K, el⟩
    rw [List.length_map, List.take_length] at el
    exact fin ρ' σ' hi0 K el

/-- the letters of some tuples -/
theorem lettersC {P : Rho → St → Prop} {ok : St → Prop} {σ : St} {la : Nat} {gs : List (List Int)} {ρ : Rho} (wf : WF σ) (hla : σ.obj la = some (.list [])) (hz : gs.length ≤ 100) (hg : ∀ g ∈ gs, g.length ≤ 3)
    (hok : ∀ σ', Keeps (fun y => y = la) σ σ' → ok σ') (fin : ∀ ρ' σ', Keeps (fun y => y = la) σ σ' → σ'.obj la = some (.list (intsA gs.flatten)) → P ρ' σ') :
    compL 40 yes (nest (fun ρ σ K => ∃ v, ρ 40 = some v ∧ gSeq v σ fun vs ok => K vs ok σ) 41 yes (emit la (fun ρ σ P => ∃ v, ρ 41 = some v ∧ P v σ))) ok (gs.map fun g => .tup (intsA g)) ρ σ P := by
  have hfl : ∀ gs : List (List Int), (∀ g ∈ gs, g.length ≤ 3) → gs.flatten.length ≤ 3 * gs.length := by
    intro gs
    induction gs with
    | nil => intro _; simp
    | cons a r ih =>
      intro h
      have h1 := h a (.head _)
      have h2 := ih fun x hx => h x (.tail _ hx)
      simp only [List.flatten_cons, List.length_append, List.length_cons]; (first | lia | omega)
  refine compL_all _ (fun i ρ' σ' => Keeps (fun y => y = la) σ σ' ∧ σ'.obj la = some (.list (intsA (gs.take i).flatten))) ?_ ?_ ⟨Keeps.refl wf, hla⟩
  · rintro i v ρ' σ' Q Q2 hv ⟨K, el⟩ hf ht hn2
    rw [List.getElem?_map] at hv
    cases hx : gs[i]? with
    | none => rw [hx] at hv; cases hv
    | some g =>
      rw [hx] at hv; cases hv
      refine ht σ' ?_
      unfold nest
      refine ⟨.tup (intsA g), by simp [upd], ?_⟩
      refine gSeqT ?_
      have h1 := hfl (gs.take i) fun x hx => hg x (List.mem_of_mem_take hx)
      have h2 := hg g (List.mem_of_getElem? hx)
      have hi := (List.getElem?_eq_some_iff.mp hx).1
      refine innerL (I := fun zz1 => True) (fun zz1 zz2 zz3 => trivial) K.wf el ?_ trivial fun ρ2 σ2 zz1 K2 e2 => ?_
      · rw [List.length_take] at h1; (first | lia | omega)
      · refine hn2 _ _ ⟨K.trans K2, ?_⟩ (hok _ (K.trans K2))
        rw [e2, List.take_add_one, hx]; simp
  · rintro ρ' σ' ⟨K, el⟩
    rw [List.length_map, List.take_length] at el
    exact fin ρ' σ' K el

/-- the folds of some codes, one behind the other -/
theorem foldedL {P : Rho → St → Prop} {ok : St → Prop} {σ : St} {la lt : Nat} {T : Told} {tk : Bool} {cs : List Int} {ρ : Rho} (wf : WF σ) (hla : σ.obj la = some (.list [])) (R : ToldR σ lt T) (hll : ∀ y, (y = lt ∨ ∃ t ∈ T, y = t.2.1) → y ≠ la) (r3 : ρ 3 = some (.ref lt)) (r4 : ρ 4 = some (.bool tk)) (hz : cs.length ≤ 1000)
    (hF : ∀ c, (foldT T (stsOf true tk) c).length ≤ 3)
    (hok : ∀ σ', Keeps (fun y => y = la) σ σ' → ok σ') (fin : ∀ ρ' σ', Keeps (fun y => y = la) σ σ' → σ'.obj la = some (.list (intsA (folds T (stsOf true tk) cs))) → P ρ' σ') :
    compL 40 yes (nest (fun ρ σ K => ∃ v, ρ 3 = some v ∧ ∃ v_1, ρ 4 = some v_1 ∧ ∃ v_2, ρ 40 = some v_2 ∧ gLawFold [v, v_1, v_2] σ fun v σ => gSeq v σ fun vs ok => K vs ok σ) 41 yes (emit la (fun ρ σ P => ∃ v, ρ 41 = some v ∧ P v σ))) ok (intsA cs) ρ σ P := by
  have hfl : ∀ cs : List Int, (folds T (stsOf true tk) cs).length ≤ 3 * cs.length := by
    intro cs
    induction cs with
    | nil => simp [folds]
    | cons a r ih =>
      have h1 := hF a
      simp only [folds, List.flatMap_cons, List.length_append, List.length_cons] at ih ⊢
      (first | lia | omega)
  refine compL_all (intsA cs) (fun i ρ' σ' => Keeps (fun y => y = la) σ σ' ∧ ρ' 3 = some (.ref lt) ∧ ρ' 4 = some (.bool tk) ∧ σ'.obj la = some (.list (intsA (folds T (stsOf true tk) (cs.take i))))) ?_ ?_ ⟨Keeps.refl wf, r3, r4, hla⟩
  · rintro i v ρ' σ' Q Q2 hv ⟨K, s3, s4, el⟩ hf ht hn2
    rw [List.getElem?_map] at hv
    cases hx : cs[i]? with
    | none => rw [hx] at hv; cases hv
    | some c =>
      rw [hx] at hv; cases hv
      refine ht σ' ?_
      have R' : ToldR σ' lt T := ⟨K.at wf R.at_ (hll _ (.inl rfl)), fun t ht => K.at wf (R.rows t ht) (hll _ (.inr ⟨t, ht, rfl⟩))⟩
      unfold nest
      refine ⟨_, s3, _, s4, .int c, by simp [upd], lt, T, tk, c, rfl, R', fun σ2 K2 => ?_⟩
      refine gSeqT ?_
      have el2 := K2.mono' K.wf _ _ el
      have h1 := hfl (cs.take i)
      have h2 := hF c
      have hi := (List.getElem?_eq_some_iff.mp hx).1
      refine innerL (I := fun ρ => ρ 3 = some (.ref lt) ∧ ρ 4 = some (.bool tk)) (fun ρ v h => ⟨h.1, h.2⟩) K2.wf el2 ?_ ⟨s3, s4⟩ fun ρ2 σ3 hI K3 e3 => ?_
      · rw [List.length_take] at h1; (first | lia | omega)
      · have KK := (K.trans K2.off).trans K3
        refine hn2 _ _ ⟨KK, hI.1, hI.2, ?_⟩ (hok _ KK)
        rw [e3, List.take_add_one, hx]; simp [folds]
  · rintro ρ' σ' ⟨K, s3, s4, el⟩
    rw [List.length_map, List.take_length] at el
    exact fin ρ' σ' K el

/-- the spokes -/
theorem spokesL {P : Rho → St → Prop} {ok : St → Prop} {σ : St} {la : Nat} {cs : List Int} {ρ : Rho} (wf : WF σ) (hla : σ.obj la = some (.list [])) (hz : cs.length ≤ 1000)
    (hok : ∀ σ', Keeps (fun y => y = la) σ σ' → ok σ') (fin : ∀ ρ' σ' ls, Keeps (fun y => y = la) σ σ' → σ'.obj la = some (.list (intsA ls)) → ls.length = cs.length → (∀ x ∈ ls, 0 ≤ x) → P ρ' σ') :
    compL 40 yes (emit la (fun ρ σ P => ∃ v, ρ 40 = some v ∧ gInt1 [v] σ fun v σ => gAbs [v] σ fun v σ => gPow (.int 10) (.int 34) σ fun w σ => gMod v w σ P)) ok (intsA cs) ρ σ P := by
  have hl := wf _ _ hla
  refine compL_all (intsA cs) (fun i ρ' σ' => Keeps (fun y => y = la) σ σ' ∧ ∃ ls, σ'.obj la = some (.list (intsA ls)) ∧ ls.length = i ∧ ∀ x ∈ ls, 0 ≤ x) ?_ ?_ ⟨Keeps.refl wf, [], hla, rfl, by simp⟩
  · rintro i v ρ' σ' Q Q2 hv ⟨K, ls, el, hll, hlm⟩ hf ht hn2
    rw [List.getElem?_map] at hv
    cases hx : cs[i]? with
    | none => rw [hx] at hv; cases hv
    | some c =>
      rw [hx] at hv; cases hv
      refine ht σ' ?_
      have hi := (List.getElem?_eq_some_iff.mp hx).1
      refine ⟨.int c, by simp [upd], c, rfl, c, rfl, 10, 34, rfl, rfl, ⟨rfl, rfl⟩, _, _, rfl, rfl, ?_, ?_⟩
      · show (10 : Int) ^ (34 : Int).toNat ≠ 0
        decide
      · have h0 := fmod_range (a := if c < 0 then -c else c) (b := (10 : Int) ^ (34 : Int).toNat) (by decide)
        refine ⟨_, el, by simp; (first | lia | omega), ?_⟩
        have K3 := K.setI (o := .list (intsA ls ++ [.int ((if c < 0 then -c else c).fmod ((10 : Int) ^ (34 : Int).toNat))])) (K.wf _ _ el) fun zz1 => rfl
        refine hn2 _ _ ⟨K3, ls ++ [(if c < 0 then -c else c).fmod ((10 : Int) ^ (34 : Int).toNat)], by rw [set_self]; simp, by simp [hll], ?_⟩ (hok _ K3)
        intro x hx
        rcases List.mem_append.mp hx with hx | hx
        · exact hlm x hx
        · simp only [List.mem_singleton] at hx; rw [hx]; exact h0.1
  · rintro ρ' σ' ⟨K, ls, el, hll, hlm⟩
    rw [List.length_map] at hll
    exact fin ρ' σ' ls K el hll hlm

/-! ## steps of the law -/
theorem Keeps.fresh {W : Nat → Prop} {σ σ' : St} {o : AO} (K : Keeps (fun y => y = σ.n ∨ W y) (σ.push o) σ') : Keeps W σ σ' :=
  ⟨K.wf, Nat.le_trans (Nat.le_succ _) K.le, fun y hy hw => (K.same y (Nat.lt_succ_of_lt hy) (by
    rintro (h | h)
    · (first | lia | omega)
    · exact hw h)).trans (by simp only [St.push, if_neg (Nat.ne_of_lt hy)])⟩
theorem Keeps.fresh0 {σ σ' : St} {o : AO} (K : Keeps (fun y => y = σ.n) (σ.push o) σ') : Keeps NoW σ σ' := (K.mono (W' := fun y => y = σ.n ∨ NoW y) fun zz1 zz2 h => .inl h).fresh
theorem cutI (xs : List Int) (k : Int) : cut (intsA xs) none (some k) = intsA (xs.take (clipAt xs.length k)) := by
  unfold cut
  simp [List.map_take]

section
variable {σ σ' : St} {lw sp lt li nb : Nat} {D : DL} {T : Told} {tk : Bool}
theorem Wd.turn (X : Wd σ lw sp lt li nb D T tk) (wf : WF σ) {b : Int} (hb : 0 < b) (hb2 : b < 1000) {P : AV → St → Prop} (q : ∀ σ' t, Keeps (WW lw sp) σ σ' → Wd σ' lw sp lt li nb D T tk → 0 ≤ t → t < b → P (.int t) σ') : gTurn [.ref lw, .int b] σ P :=
  ⟨lw, sp, b, rfl, X.wheel, hb, hb2, fun σ' t K W h0 h1 => q σ' t K (X.step wf K W) h0 h1⟩
theorem Wd.draw (X : Wd σ lw sp lt li nb D T tk) (wf : WF σ) {L : List Int} {b t : Int} {ρ : Rho} {P : St → Prop} (hb : b = L.length) (hb0 : 0 < L.length) (hb1 : L.length < 1000) (ht1 : t ≤ 1000) (r1 : ρ 1 = some (.ref lw))
    (q : ∀ σ' ls, Keeps (WW lw sp) σ σ' → Wd σ' lw sp lt li nb D T tk → σ'.obj σ.n = some (.list (intsA ls)) → ls.length = t.toNat → (∀ x ∈ ls, x ∈ L) → P σ') :
    compL 40 yes (emit σ.n (fun ρ σ P => ∃ v, ρ 1 = some v ∧ gTurn [v, .int b] σ fun w σ => gItem (.tup (intsA L)) w σ P)) (fun zz1 => True) (rngInts 0 t) ρ (σ.push (.list [])) (fun zz1 σ2 => P σ2) := by
  have hn := X.nbn wf
  have h1 := X.lw_
  have h2 := X.sp_
  have K1 : Keeps NoW σ (σ.push (.list [])) := (Keeps.refl wf).pushI
  refine drawL hb hb0 hb1 ht1 (push_wf wf) push_new (X.wheel.keep0 wf K1) (by (first | lia | omega)) (by (first | lia | omega)) r1 fun ρ' σ' ls K W' e hl hm => ?_
  have K' := K.fresh
  exact q σ' ls K' (X.step wf K' W') e hl hm
theorem Wd.ne_n (X : Wd σ lw sp lt li nb D T tk) (wf : WF σ) : ∀ y, (y = lt ∨ ∃ t ∈ T, y = t.2.1) → y ≠ σ.n := fun y hy => by
  rcases hy with rfl | ⟨t, ht, rfl⟩
  · exact Nat.ne_of_lt (wf _ _ X.told.at_)
  · exact Nat.ne_of_lt (wf _ _ (X.told.rows t ht))

/-- fold_full of two lists -/
theorem bothL (X : Wd σ lw sp lt li nb D T tk) (wf : WF σ) {ρ : Rho} {P : St → Prop} {lp lx : Nat} {part text : List Int} (r2 : ρ 2 = some (.inst 248 D.ld)) (r4 : ρ 4 = some (.bool tk)) (ep : σ.obj lp = some (.list (intsA part))) (ex : σ.obj lx = some (.list (intsA text)))
    (hp : ∀ c ∈ part, 0 ≤ c) (hx : ∀ c ∈ text, 0 ≤ c) (hpz : part.length ≤ 1000) (hxz : text.length ≤ 1000) 
    (q : ∀ σ' a b, Keeps NoW σ σ' → σ'.obj σ.n = some (.list [.ref a, .ref b]) → σ'.obj a = some (.list (intsA (folds T (stsOf true tk) part))) → σ'.obj b = some (.list (intsA (folds T (stsOf true tk) text))) → P σ') :
    compL 40 yes (emit σ.n (fun ρ σ P => ∃ v, ρ 40 = some v ∧ ∃ v_1, ρ 2 = some v_1 ∧ ∃ v_2, ρ 4 = some v_2 ∧ gFoldFull [v, v_1, v_2] σ fun v σ => gListOf [v] σ P)) (fun zz1 => True) [.ref lp, .ref lx] ρ (σ.push (.list [])) (fun zz1 σ2 => P σ2) := by
  obtain ⟨rows, B⟩ := X.db
  have hlt := B.lt wf
  have K1 : Keeps NoW σ (σ.push (.list [])) := (Keeps.refl wf).pushI
  have B1 := B.keep0 wf K1
  have hfp := folds_len B (stsOf true tk) part
  have hfx := folds_len B (stsOf true tk) text
  refine ⟨fun zz1 => ?_, fun h => nomatch h⟩
  refine ⟨_, rfl, _, r2, _, r4, D, T, rows, lp, part, tk, rfl, B1, push_old wf ep, hp, hpz, ?_⟩
  intro σ2 a K2 ha ea
  have K12 := K1.trans K2
  refine ⟨_, _, rfl, .inr ⟨a, rfl, ea⟩, by simp; (first | lia | omega), [], push_old K2.wf (K2.mono' K1.wf _ _ push_new), by simp, trivial, ?_⟩
  -- the state behind the first
  have hn2 : σ.n + 1 ≤ σ2.n := K2.le
  have K3 : Keeps NoW σ ((σ2.push (.list (intsA (folds T (stsOf true tk) part)))).set σ.n (.list [.ref σ2.n])) := K12.pushI.setI (by show σ.n < σ2.n + 1; (first | lia | omega)) fun h => absurd h (Nat.lt_irrefl _)
  have e3 : ((σ2.push (.list (intsA (folds T (stsOf true tk) part)))).set σ.n (.list [.ref σ2.n])).obj σ.n = some (.list [.ref σ2.n]) := set_self
  have a3 := set_other (o := .list [.ref σ2.n]) (push_new (σ := σ2) (o := .list (intsA (folds T (stsOf true tk) part)))) (show σ2.n ≠ σ.n by (first | lia | omega))
  have n3 : ((σ2.push (.list (intsA (folds T (stsOf true tk) part)))).set σ.n (.list [.ref σ2.n])).n = σ2.n + 1 := rfl
  show compL 40 yes _ _ _ _ ((σ2.push (.list (intsA (folds T (stsOf true tk) part)))).set σ.n (.list [.ref σ2.n])) _
  generalize (σ2.push (.list (intsA (folds T (stsOf true tk) part)))).set σ.n (.list [.ref σ2.n]) = σ3 at K3 e3 a3 n3 ⊢
  have B3 := B.keep0 wf K3
  refine ⟨fun zz1 => ?_, fun h => nomatch h⟩
  refine ⟨_, rfl, _, r2, _, r4, D, T, rows, lx, text, tk, rfl, B3, K3.mono' wf _ _ ex, hx, hxz, ?_⟩
  intro σ4 b K4 hb eb
  have e4 := K4.mono' K3.wf _ _ e3
  refine ⟨_, _, rfl, .inr ⟨b, rfl, eb⟩, by simp; (first | lia | omega), _, push_old K4.wf e4, by simp, trivial, ?_⟩
  have hn4 := K4.le
  refine q _ σ2.n σ4.n ((K3.trans K4).pushI.setI (by show σ.n < σ4.n + 1; (first | lia | omega)) fun h => absurd h (Nat.lt_irrefl _)) set_self (set_other (push_old K4.wf (K4.mono' K3.wf _ _ a3)) (by (first | lia | omega))) (set_other push_new (by (first | lia | omega)))
end

/-! ## what a call asks, as one step -/
section
variable {σ : St} {P : AV → St → Prop} {li lt : Nat} {T : Told} {t : Bool} {cs : List Int}
theorem i_lawfold {c : Int} (R : ToldR σ lt T) (q : ∀ σ', Keeps NoW σ σ' → P (.tup (intsA (foldT T (stsOf true t) c))) σ') : gLawFold [.ref lt, .bool t, .int c] σ P := ⟨lt, T, t, c, rfl, R, q⟩
theorem i_alike {g : List Int} (R : ToldR σ lt T) (q : ∀ σ' r, Keeps NoW σ σ' → σ.n ≤ r → σ'.obj r = some (.list (intsA (alikeP T t g))) → P (.ref r) σ') : gAlike [.ref lt, .bool t, .tup (intsA g)] σ P := ⟨lt, T, t, g, rfl, R, q⟩
theorem i_texts {n : Nat} {g : List Int} (R : ToldR σ lt T) (hz : g.length ≤ n) (q : textsPost T t g σ P) : gTexts n [.ref lt, .bool t, .tup (intsA g)] σ P := ⟨lt, T, t, g, rfl, R, hz, q⟩
theorem i_whole {c : Int} (X : IDX σ li T t cs) (hc : 0 ≤ c) (q : ∀ σ' r, Keeps NoW σ σ' → σ.n ≤ r → σ'.obj r = some (.list (intsA (wholeP T t cs c))) → P (.ref r) σ') : gWhole [.inst 199 li, .int c] σ P := ⟨li, T, t, cs, c, rfl, X, hc, q⟩
theorem i_unf {g : List Int} (X : IDX σ li T t cs) (hc : g.length ≤ 1000) (q : ∀ σ' r, Keeps NoW σ σ' → σ.n ≤ r → σ'.obj r = some (.list (intsA (unfP T t cs g))) → P (.ref r) σ') : gUnf [.inst 199 li, .tup (intsA g)] σ P := ⟨li, T, t, cs, g, rfl, X, hc, q⟩
theorem i_spell {g : List Int} (X : IDX σ li T t cs) (hc : ∀ c ∈ g, 0 ≤ c) (hz : g.length ≤ 3) (hw : ∀ c, (wholeP T t cs c).length ≤ 50)
    (q : ∀ σ' r vs, Keeps NoW σ σ' → σ.n ≤ r → σ'.obj r = some (.list vs) → RowsQ (fun l => σ.n ≤ l) σ' vs (spellP T t cs g) → P (.ref r) σ') : gSpell [.inst 199 li, .tup (intsA g)] σ P := ⟨li, T, t, cs, g, rfl, X, hc, hz, hw, q⟩
theorem i_strings {c : Int} (X : IDX σ li T t cs) (hc : 0 ≤ c) (hx : ∀ x ∈ foldT T (stsOf true t) c, 0 ≤ x) (hw : ∀ c, (wholeP T t cs c).length ≤ 50)
    (q : ∀ σ' r vs, Keeps NoW σ σ' → σ.n ≤ r → σ'.obj r = some (.list vs) → RowsQ (fun l => σ.n ≤ l) σ' vs (stringsP T t cs c) → P (.ref r) σ') : gStrings [.inst 199 li, .int c] σ P := ⟨li, T, t, cs, c, rfl, X, hc, hx, hw, q⟩
theorem i_exch {lw sp lg : Nat} {gs : List (List Int)} (W : Wheel σ lw sp) (R : ToldR σ lt T) (e : σ.obj lg = some (.list (gs.map fun g => .tup (intsA g)))) (hne : ∀ g ∈ gs, alikeP T t g ≠ []) (hz : gs.length ≤ 1000)
    (q : ∀ σ' r found, Keeps (WW lw sp) σ σ' → Wheel σ' lw sp → σ.n ≤ r → σ'.obj r = some (.list (intsA found)) → (∀ x ∈ found, x ∈ knownL) → found.length = gs.length → P (.ref r) σ') : gExch [.ref lw, .ref lt, .bool t, .ref lg] σ P := ⟨lw, sp, lt, T, t, lg, gs, rfl, W, R, e, hne, hz, q⟩
theorem i_read {tx gl : Nat} {text goal : List Int} (X : IDX σ li T t cs) (e1 : σ.obj tx = some (.list (intsA text))) (e2 : σ.obj gl = some (.list (intsA goal))) (hg : ∀ x ∈ goal, 0 ≤ x) (z1 : text.length ≤ 1000) (z2 : goal.length ≤ 1000)
    (q : ∀ σ', Keeps NoW σ σ' → P (.bool (readP (wholeP T t cs) (unfP T t cs) goal 0 text)) σ') : gRead [.inst 199 li, .ref tx, .ref gl] σ P := ⟨li, T, t, cs, tx, gl, text, goal, rfl, X, e1, e2, hg, z1, z2, q⟩
theorem i_full {D : DL} {rows : List (Int × AV)} {l : Nat} {cs : List Int} (B : DB σ D T rows) (e : σ.obj l = some (.list (intsA cs))) (hc : ∀ c ∈ cs, 0 ≤ c) (hz : cs.length ≤ 1000)
    (q : ∀ σ' r, Keeps NoW σ σ' → σ.n ≤ r → σ'.obj r = some (.list (intsA (folds T (stsOf true t) cs))) → P (.ref r) σ') : gFoldFull [.ref l, .inst 248 D.ld, .bool t] σ P := ⟨D, T, rows, l, cs, t, rfl, B, e, hc, hz, q⟩
theorem i_match {D : DL} {rows : List (Int × AV)} {l l2 : Nat} {cs cs2 : List Int} (B : DB σ D T rows) (e : σ.obj l = some (.list (intsA cs))) (e2 : σ.obj l2 = some (.list (intsA cs2))) (hc : ∀ c ∈ cs, 0 ≤ c) (hc2 : ∀ c ∈ cs2, 0 ≤ c) (hz : cs.length ≤ 1000) (hz2 : cs2.length ≤ 1000)
    (q : ∀ σ', Keeps NoW σ σ' → P (.bool (decide (folds T (stsOf true t) cs = folds T (stsOf true t) cs2))) σ') : gMatches [.ref l, .ref l2, .inst 248 D.ld, .bool t] σ P := ⟨D, T, rows, l, l2, cs, cs2, t, rfl, B, e, e2, hc, hc2, hz, hz2, q⟩
theorem i_list {r : Nat} {xs : List AV} (e : σ.obj r = some (.list xs)) (hz : xs.length ≤ 1000000) (q : P (.ref σ.n) (σ.push (.list xs))) : gListOf [.ref r] σ P := ⟨_, _, rfl, .inr ⟨r, rfl, e⟩, hz, q⟩
theorem i_tup {r : Nat} {xs : List AV} (e : σ.obj r = some (.list xs)) (hz : xs.length ≤ 1000000) (q : P (.tup xs) σ) : gTupOf [.ref r] σ P := ⟨_, _, rfl, .inr ⟨r, rfl, e⟩, hz, q⟩
end
end Mine
end

noncomputable section
open PySem PySem.W PyProof.Rows PySem.Calls PySem.Spec
set_option Elab.async false
set_option maxRecDepth 100000
set_option maxHeartbeats 0
set_option linter.all false
namespace Mine

noncomputable def Fin (P : Fl → Rho → St → Prop) : Prop := ∀ ρ σ, P (.ret (.bool true)) ρ σ

noncomputable def gB : FS := fun ρ σ P => ∃ lw sp lt D T tk, ρ 1 = some (.ref lw) ∧ ρ 2 = some (.inst 248 D.ld) ∧ ρ 3 = some (.ref lt) ∧ ρ 4 = some (.bool tk) ∧ Wheel σ lw sp ∧ ToldR σ lt T ∧ TK T ∧ DR0 σ D ∧ Fin P
noncomputable def gC : FS := fun ρ σ P => ∃ lw sp lt D T tk rows, ρ 1 = some (.ref lw) ∧ ρ 2 = some (.inst 248 D.ld) ∧ ρ 3 = some (.ref lt) ∧ ρ 4 = some (.bool tk) ∧ Wheel σ lw sp ∧ ToldR σ lt T ∧ TK T ∧ DB σ D T rows ∧ ApW D T lw sp ∧
  oneLong rows ∧ (liveR rows).map (·.1) = csOf T ∧ (∀ x ∈ rows, 0 ≤ x.1 ∧ x.1 < 10000000) ∧ (∀ x ∈ rows, x.2 = .none ∨ ∃ y kk, x.2 = .ref y ∧ σ.obj y = some (.dS kk)) ∧ rows.length ≤ 30 ∧ Fin P
noncomputable def gD : FS := fun ρ σ P => ∃ lw sp lt li nb D T tk ch, Vs ρ lw lt li D.ld tk ∧ ρ 7 = some (.int ch) ∧ Wd σ lw sp lt li nb D T tk ∧ TK T ∧ Fin P
noncomputable def gDb : FS := fun ρ σ P => ∃ lw sp lt li nb D T tk ch c, Vs ρ lw lt li D.ld tk ∧ ρ 7 = some (.int ch) ∧ ρ 5 = some (.int c) ∧ c ∈ knownL ∧ Wd σ lw sp lt li nb D T tk ∧ TK T ∧ (∀ ρ' σ', Vs ρ' lw lt li D.ld tk → ρ' 7 = some (.int ch) → Keeps NoW σ σ' → P .next ρ' σ')
noncomputable def gDue : FS := fun ρ σ P => ∃ lw sp lt li nb D T tk ch c, Vs ρ lw lt li D.ld tk ∧ ρ 7 = some (.int ch) ∧ ρ 5 = some (.int c) ∧ ρ 8 = some (.tup (intsA (foldT T (stsOf true tk) c))) ∧ c ∈ knownL ∧ Wd σ lw sp lt li nb D T tk ∧ TK T ∧ (∀ ρ' σ', Vs ρ' lw lt li D.ld tk → ρ' 7 = some (.int ch) → Keeps NoW σ σ' → P .next ρ' σ')
noncomputable def dueP (T : Told) (tk : Bool) (ch c : Int) : List (List Int) := if c = ch ∧ 1 < (foldT T (stsOf true tk) c).length then textsP T tk (foldT T (stsOf true tk) c) else []
noncomputable def gLast : FS := fun ρ σ P => ∃ lw sp lt li nb D T tk ch c rd ws, Vs ρ lw lt li D.ld tk ∧ ρ 7 = some (.int ch) ∧ ρ 5 = some (.int c) ∧ ρ 9 = some (.ref rd) ∧ σ.obj rd = some (.list ws) ∧ RowsQ (fun zz1 => True) σ ws (dueP T tk ch c) ∧ c ∈ knownL ∧ Wd σ lw sp lt li nb D T tk ∧ TK T ∧ (∀ ρ' σ', Vs ρ' lw lt li D.ld tk → ρ' 7 = some (.int ch) → Keeps NoW σ σ' → P .next ρ' σ')
noncomputable def gGo : FS := fun ρ σ P => ∃ lw sp lt li nb D T tk, Vs ρ lw lt li D.ld tk ∧ Wd σ lw sp lt li nb D T tk ∧ TK T ∧ Fin P
noncomputable def gG : FS := fun ρ σ P => ∃ lw sp lt li nb D T tk lp lx lg ll way part text, Vs ρ lw lt li D.ld tk ∧ Wd σ lw sp lt li nb D T tk ∧ TK T ∧
  ρ 11 = some (.ref lp) ∧ ρ 12 = some (.ref lx) ∧ ρ 13 = some (.ref lg) ∧ ρ 14 = some (.int way) ∧ ρ 15 = some (.ref ll) ∧ nb ≤ lp ∧ nb ≤ lx ∧ nb ≤ lg ∧ nb ≤ ll ∧
  σ.obj lp = some (.list (intsA part)) ∧ σ.obj lx = some (.list (intsA text)) ∧ σ.obj lg = some (.list (part.map fun c => .tup (intsA (foldT T (stsOf true tk) c)))) ∧ σ.obj ll = some (.list (intsA (folds T (stsOf true tk) part))) ∧
  (∀ c ∈ part, c ∈ knownL) ∧ (∀ c ∈ text, c ∈ knownL) ∧ part.length ≤ 4 ∧ text.length ≤ 4 ∧ Fin P
noncomputable def gMore : FS := fun ρ σ P => ∃ lw sp lt li nb D T tk lx r text found, Vs ρ lw lt li D.ld tk ∧ Wd σ lw sp lt li nb D T tk ∧ ρ 12 = some (.ref lx) ∧ ρ 16 = some (.ref r) ∧ nb ≤ lx ∧ nb ≤ r ∧ σ.obj lx = some (.list (intsA text)) ∧ σ.obj r = some (.list (intsA found)) ∧
  (∀ c ∈ text, c ∈ knownL) ∧ (∀ c ∈ found, c ∈ knownL) ∧ text.length ≤ 4 ∧ found.length ≤ 12 ∧
  ∀ σ' l' t', Keeps (WW lw sp) σ σ' → Wd σ' lw sp lt li nb D T tk → nb ≤ l' → σ'.obj l' = some (.list (intsA t')) → (∀ c ∈ t', c ∈ knownL) → t'.length ≤ 100 → P .next (upd ρ 12 (some (.ref l'))) σ'
noncomputable def gH : FS := fun ρ σ P => ∃ lw sp lt li nb D T tk lp lx ll part text, Vs ρ lw lt li D.ld tk ∧ Wd σ lw sp lt li nb D T tk ∧ TK T ∧
  ρ 11 = some (.ref lp) ∧ ρ 12 = some (.ref lx) ∧ ρ 15 = some (.ref ll) ∧ nb ≤ lp ∧ nb ≤ lx ∧ nb ≤ ll ∧
  σ.obj lp = some (.list (intsA part)) ∧ σ.obj lx = some (.list (intsA text)) ∧ σ.obj ll = some (.list (intsA (folds T (stsOf true tk) part))) ∧
  (∀ c ∈ part, c ∈ knownL) ∧ (∀ c ∈ text, c ∈ knownL) ∧ part.length ≤ 4 ∧ text.length ≤ 100 ∧ Fin P
noncomputable def gLaw : Fs := fun vs σ P => ∃ ns, vs = [.lst (intsA ns)] ∧ ns.length ≤ 63 ∧ ∀ σ', P (.bool true) σ'

theorem i_cutLst {k : Int} {xs ys : List AV} {σ : St} {P : AV → St → Prop} (hc : cut xs none (some k) = ys) (hz : xs.length ≤ 1000000) (q : P (.ref σ.n) (σ.push (.list ys))) : gSlice (.lst xs) .none (.int k) σ P := by subst hc; exact ⟨_, _, .none, .int k, hz, q⟩

theorem law_code {C : Ctx} {p : Params} (hC : C.K = hd.heap_39 p) : CodeN C 9 (.ref 300) gLaw := by
  refine forC (Q := fun C => CodeN C 9 (.ref 300) gLaw) ?_ hC
  clear hC
  intro prog w h0 p pp loose mg mb KX T
  have hC : (Ctx.mk prog w h0 (hd.heap_39 p) pp loose mg mb KX T).K = hd.heap_39 p := rfl
  have h_Data := (data_code hC).mono (show 3 ≤ 8 by decide)
  have h_law_told := (told_code hC).mono (show 2 ≤ 8 by decide)
  have h_law_turn := (turn_code hC).mono (show 1 ≤ 8 by decide)
  have h_Data_put := (dput_code hC).mono (show 4 ≤ 8 by decide)
  have h_FoldIndex := (fi_code hC).mono (show 7 ≤ 8 by decide)
  have h_law_fold := (lawfold_code hC).mono (show 1 ≤ 8 by decide)
  have h_FoldIndex_whole := (whole_code hC).mono (show 5 ≤ 8 by decide)
  have h_FoldIndex_unfolded := (unf_code hC).mono (show 5 ≤ 8 by decide)
  have h_law_alike := (alike_code hC).mono (show 2 ≤ 8 by decide)
  have h_law_texts := (texts_code hC 3 (Nat.le_refl _)).mono (show 6 ≤ 8 by decide)
  have h_FoldIndex_strings := (strings_code hC).mono (show 7 ≤ 8 by decide)
  have h_FoldIndex_spelled := (spell_code hC).mono (show 6 ≤ 8 by decide)
  have h_law_exchanged := (exch_code hC).mono (show 3 ≤ 8 by decide)
  have h_fold_full := (foldfull_code hC).mono (show 6 ≤ 8 by decide)
  have h_matches_default := matches_code hC
  have h_law_is_read := (read_code hC).mono (show 6 ≤ 8 by decide)
  clear hC
  have glob_law_letters := letters_rep KX
  have glob_law_known := known_rep KX
  refine CodeN.weakenW (codeDef (defOk_of (names := ["script"]) (vars := [("script", 0, false), ("wheel", 1, true), ("data", 2, true), ("told", 3, true), ("is_turkic", 4, true), ("code", 5, false), ("index", 6, false), ("chosen", 7, false), ("goal", 8, false), ("due", 9, false), ("row", 10, false), ("part", 11, false), ("text", 12, false), ("goals", 13, false), ("way", 14, false), ("letters", 15, false), ("more", 16, false), ("folded", 17, false)]) rfl rfl rfl rfl rfl rfl rfl (bind1 (fun zz1 => rfl)))
    (simCons (simAssignT (simTup (.cons (simDictS (.cons simConst_str (simRev (simComp1 (compOk_of (vars := [("cell", 40, false)]) (sl := [40]) rfl) (simI (simSlice (simVar m0) simP_none (simP_some simConst_int)) srcOk_seq) m0 simTests_nil (simBin (simCallB rfl rfl rfl (by decide) (.cons (simCallT rfl rfl rfl (by decide) (.cons (simVar m0) .nil (fun zz1 => rfl)) simN_int) .nil (fun zz1 => rfl)) simN_abs) (simBin simConst_int simConst_int sim_pow) sim_mod)) simNeg1) (.cons simConst_str simConst_int .nil)) (List.cons_ne_nil _ _)) (.cons (simCallC rfl rfl rfl .nil h_Data.simN) .nil (fun zz1 => rfl)) (fun zz1 => rfl))) (simT_tup (.cons m1 (.cons m2 .nil (fun zz1 => rfl)) (fun zz1 => rfl))) (h2 := by intro env h; cases env; cases h; rfl))
    (simCons (simAssignT (simTup (.cons (simCallFn rfl rfl rfl (.cons (simVar m1) .nil (fun zz1 => rfl)) h_law_told.simN) (.cons (simCmp (simCallFn rfl rfl rfl (.cons (simVar m1) (.cons simConst_int .nil (fun zz1 => rfl)) (fun zz1 => rfl)) h_law_turn.simN) simConst_int sim_eq) .nil (fun zz1 => rfl)) (fun zz1 => rfl))) (simT_tup (.cons m3 (.cons m4 .nil (fun zz1 => rfl)) (fun zz1 => rfl))) (h2 := by intro env h; cases env; cases h; rfl))
    (SimSs.weakenW (G := gB) (simCons (simFor (simI (simCallB rfl rfl rfl (by decide) (.cons (simVar m3) .nil (fun zz1 => rfl)) simN_sorted) srcOk_seq) (simT_name m5) (simOne (simExpr (simMeth (simVar m2) (.cons simConst_str (.cons (simVar m5) (.cons (simVar m5) (.cons (simSub (simVar m3) (simVar m5)) .nil (fun zz1 => rfl)) (fun zz1 => rfl)) (fun zz1 => rfl)) (fun zz1 => rfl)) cls_Data rfl rfl rfl h_Data_put.simN))))
    (SimSs.weakenW (G := gC) (simCons (simSwap (ns := ["index", "chosen"]) (is := [6, 7]) (simTup (.cons (simCallC rfl rfl rfl (.cons (simVar m2) (.cons (simVar m4) .nil (fun zz1 => rfl)) (fun zz1 => rfl)) h_FoldIndex.simN) (.cons (simSub (simGlob rfl rfl glob_law_known) (simCallFn rfl rfl rfl (.cons (simVar m1) (.cons simConst_int .nil (fun zz1 => rfl)) (fun zz1 => rfl)) h_law_turn.simN)) .nil (fun zz1 => rfl)) (fun zz1 => rfl))) (by intro j x i h1 h2; match j, h1, h2 with | 0, h1, h2 => cases h1; cases h2; exact ⟨_, m7⟩ | 1, h1, h2 => cases h1; cases h2; exact ⟨_, m6⟩ | _ + 2, h1, h2 => cases h1) rfl (hw := by intro env h; cases env; cases h; rfl))
    (SimSs.weakenW (G := gD) (simCons (simFor (simI (simGlob rfl rfl glob_law_known) srcOk_seq) (simT_name m5) (SimSs.weakenW (G := gDb) (simCons (simAssign (simCallFn rfl rfl rfl (.cons (simVar m3) (.cons (simVar m4) (.cons (simVar m5) .nil (fun zz1 => rfl)) (fun zz1 => rfl)) (fun zz1 => rfl)) h_law_fold.simN) m8)
    (simCons (simIf (simB_cmp (simCallT rfl rfl rfl (by decide) (.cons (simMeth (simVar m6) (.cons (simVar m5) .nil (fun zz1 => rfl)) cls_FoldIndex rfl rfl rfl h_FoldIndex_whole.simN) .nil (fun zz1 => rfl)) simN_listOf) (simCallFn rfl rfl rfl (.cons (simVar m3) (.cons (simVar m4) (.cons (simTup (.cons (simVar m5) .nil (fun zz1 => rfl))) .nil (fun zz1 => rfl)) (fun zz1 => rfl)) (fun zz1 => rfl)) h_law_alike.simN) sim_ne) (simOne (simReturn simConst_bool)) simNil)
    (simCons (simIf (simB_and (simB_cmp (simCallB rfl rfl rfl (by decide) (.cons (simVar m8) .nil (fun zz1 => rfl)) simN_len) simConst_int sim_gt) (simB_cmp (simCallT rfl rfl rfl (by decide) (.cons (simMeth (simVar m6) (.cons (simVar m8) .nil (fun zz1 => rfl)) cls_FoldIndex rfl rfl rfl h_FoldIndex_unfolded.simN) .nil (fun zz1 => rfl)) simN_listOf) (simCallFn rfl rfl rfl (.cons (simVar m3) (.cons (simVar m4) (.cons (simVar m8) .nil (fun zz1 => rfl)) (fun zz1 => rfl)) (fun zz1 => rfl)) h_law_alike.simN) sim_ne)) (simOne (simReturn simConst_bool)) simNil)
    (SimSs.weakenW (G := gDue) (simCons (simAssign (simIfe (simB_and (simB_cmp (simVar m5) (simVar m7) sim_eq) (simB_cmp (simCallB rfl rfl rfl (by decide) (.cons (simVar m8) .nil (fun zz1 => rfl)) simN_len) simConst_int sim_gt)) (simCallFn rfl rfl rfl (.cons (simVar m3) (.cons (simVar m4) (.cons (simVar m8) .nil (fun zz1 => rfl)) (fun zz1 => rfl)) (fun zz1 => rfl)) h_law_texts.simN) (simList .nil)) m9)
    (SimSs.weakenW (G := gLast) (simOne (simIf (simB_and (simB_cmp (simVar m5) (simVar m7) sim_eq) (simB_cmp (simComp1 (compOk_of (vars := [("one", 40, false)]) (sl := [40]) rfl) (simI (simMeth (simVar m6) (.cons (simVar m5) .nil (fun zz1 => rfl)) cls_FoldIndex rfl rfl rfl h_FoldIndex_strings.simN) srcOk_seq) m0 simTests_nil (simCallT rfl rfl rfl (by decide) (.cons (simVar m0) .nil (fun zz1 => rfl)) simN_listOf)) (simVar m9) sim_ne)) (simOne (simReturn simConst_bool)) simNil)) ?pLast)) ?pDue)))) ?pDb))
    (SimSs.weakenW (G := gGo) (simCons (simAssign (simCallT rfl rfl rfl (by decide) (.cons (simComp1 (compOk_of (vars := [("turn", 40, false), ("wheel", 1, true)]) (sl := [40]) rfl) (simI (simCallT rfl rfl rfl (by decide) (.cons (simCallFn rfl rfl rfl (.cons (simVar m1) (.cons simConst_int .nil (fun zz1 => rfl)) (fun zz1 => rfl)) h_law_turn.simN) .nil (fun zz1 => rfl)) simN_range1) srcOk_rng) m0 simTests_nil (simSub (simGlob rfl rfl glob_law_letters) (simCallFn rfl rfl rfl (.cons (simVar m1) (.cons simConst_int .nil (fun zz1 => rfl)) (fun zz1 => rfl)) h_law_turn.simN))) .nil (fun zz1 => rfl)) simN_tupOf) m10)
    (simCons (simIf (simB_cmp (simComp1 (compOk_of (vars := [("one", 40, false)]) (sl := [40]) rfl) (simI (simMeth (simVar m6) (.cons (simVar m10) .nil (fun zz1 => rfl)) cls_FoldIndex rfl rfl rfl h_FoldIndex_spelled.simN) srcOk_seq) m0 simTests_nil (simCallT rfl rfl rfl (by decide) (.cons (simVar m0) .nil (fun zz1 => rfl)) simN_listOf)) (simCallFn rfl rfl rfl (.cons (simVar m3) (.cons (simVar m4) (.cons (simVar m10) .nil (fun zz1 => rfl)) (fun zz1 => rfl)) (fun zz1 => rfl)) h_law_texts.simN) sim_ne) (simOne (simReturn simConst_bool)) simNil)
    (SimSs.weakenW (G := gGo) (simCons (simUse1 (compOk_of (vars := [("turn", 40, false), ("wheel", 1, true)]) (sl := [40]) rfl) (simI (simCallT rfl rfl rfl (by decide) (.cons (simCallFn rfl rfl rfl (.cons (simVar m1) (.cons simConst_int .nil (fun zz1 => rfl)) (fun zz1 => rfl)) h_law_turn.simN) .nil (fun zz1 => rfl)) simN_range1) srcOk_rng) m0 simTests_nil (simSub (simGlob rfl rfl glob_law_known) (simCallFn rfl rfl rfl (.cons (simVar m1) (.cons simConst_int .nil (fun zz1 => rfl)) (fun zz1 => rfl)) h_law_turn.simN)) m11 (by intro env h; cases env; cases h; rfl))
    (simCons (simUse1 (compOk_of (vars := [("turn", 40, false), ("wheel", 1, true)]) (sl := [40]) rfl) (simI (simCallT rfl rfl rfl (by decide) (.cons (simCallFn rfl rfl rfl (.cons (simVar m1) (.cons simConst_int .nil (fun zz1 => rfl)) (fun zz1 => rfl)) h_law_turn.simN) .nil (fun zz1 => rfl)) simN_range1) srcOk_rng) m0 simTests_nil (simSub (simGlob rfl rfl glob_law_known) (simCallFn rfl rfl rfl (.cons (simVar m1) (.cons simConst_int .nil (fun zz1 => rfl)) (fun zz1 => rfl)) h_law_turn.simN)) m12 (by intro env h; cases env; cases h; rfl))
    (simCons (simSwap (ns := ["goals", "way"]) (is := [13, 14]) (simTup (.cons (simComp1 (compOk_of (vars := [("code", 40, false), ("told", 3, true), ("is_turkic", 4, true)]) (sl := [40]) rfl) (simI (simVar m11) srcOk_seq) m0 simTests_nil (simCallFn rfl rfl rfl (.cons (simVar m1) (.cons (simVar m2) (.cons (simVar m0) .nil (fun zz1 => rfl)) (fun zz1 => rfl)) (fun zz1 => rfl)) h_law_fold.simN)) (.cons (simCallFn rfl rfl rfl (.cons (simVar m1) (.cons simConst_int .nil (fun zz1 => rfl)) (fun zz1 => rfl)) h_law_turn.simN) .nil (fun zz1 => rfl)) (fun zz1 => rfl))) (by intro j x i h1 h2; match j, h1, h2 with | 0, h1, h2 => cases h1; cases h2; exact ⟨_, m14⟩ | 1, h1, h2 => cases h1; cases h2; exact ⟨_, m13⟩ | _ + 2, h1, h2 => cases h1) rfl (hw := by intro env h; cases env; cases h; rfl))
    (simCons (simUse2 (compOk_of (vars := [("goal", 40, false), ("letter", 41, false)]) (sl := [40, 41]) rfl) (simI (simVar m13) srcOk_seq) m0 simTests_nil (simI (simVar m0) srcOk_seq) m1 simTests_nil (simVar m1) m15 (by intro env h; cases env; cases h; rfl))
    (SimSs.weakenW (G := gG) (simCons (simIf (simB_cmp (simVar m14) simConst_int sim_gt) (simCons (simAssign (simCallFn rfl rfl rfl (.cons (simVar m1) (.cons (simVar m3) (.cons (simVar m4) (.cons (simIfe (simB_cmp (simVar m14) simConst_int sim_eq) (simVar m13) (simComp1 (compOk_of (vars := [("letter", 40, false)]) (sl := [40]) rfl) (simI (simVar m15) srcOk_seq) m0 simTests_nil (simTup (.cons (simVar m0) .nil (fun zz1 => rfl))))) .nil (fun zz1 => rfl)) (fun zz1 => rfl)) (fun zz1 => rfl)) (fun zz1 => rfl)) h_law_exchanged.simN) m16)
    (SimSs.weakenW (G := gMore) (simOne (simAssign (simBin (simSlice (simVar m16) simP_none (simP_some (simBin (simCallB rfl rfl rfl (by decide) (.cons (simVar m16) .nil (fun zz1 => rfl)) simN_len) (simCallFn rfl rfl rfl (.cons (simVar m1) (.cons simConst_int .nil (fun zz1 => rfl)) (fun zz1 => rfl)) h_law_turn.simN) sim_sub))) (simIfe (simB_cmp (simCallFn rfl rfl rfl (.cons (simVar m1) (.cons simConst_int .nil (fun zz1 => rfl)) (fun zz1 => rfl)) h_law_turn.simN) simConst_int sim_eq) (simVar m12) (simList .nil)) sim_add) m12)) ?pMore)) simNil)
    (SimSs.weakenW (G := gH) (simCons (simUse2 (compOk_of (vars := [("code", 40, false), ("letter", 41, false), ("told", 3, true), ("is_turkic", 4, true)]) (sl := [40, 41]) rfl) (simI (simVar m12) srcOk_seq) m0 simTests_nil (simI (simCallFn rfl rfl rfl (.cons (simVar m2) (.cons (simVar m3) (.cons (simVar m0) .nil (fun zz1 => rfl)) (fun zz1 => rfl)) (fun zz1 => rfl)) h_law_fold.simN) srcOk_seq) m1 simTests_nil (simVar m1) m17 (by intro env h; cases env; cases h; rfl))
    (simCons (simIf (simB_cmp (simComp1 (compOk_of (vars := [("one", 40, false), ("data", 2, true), ("is_turkic", 4, true)]) (sl := [40]) rfl) (simI (simTup (.cons (simVar m11) (.cons (simVar m12) .nil (fun zz1 => rfl)) (fun zz1 => rfl))) srcOk_seq) m0 simTests_nil (simCallT rfl rfl rfl (by decide) (.cons (simCallFn rfl rfl rfl (.cons (simVar m0) (.cons (simVar m1) (.cons (simVar m2) .nil (fun zz1 => rfl)) (fun zz1 => rfl)) (fun zz1 => rfl)) h_fold_full.simN) .nil (fun zz1 => rfl)) simN_listOf)) (simList (.cons (simVar m15) (.cons (simVar m17) .nil (fun zz1 => rfl)) (fun zz1 => rfl))) sim_ne) (simOne (simReturn simConst_bool)) simNil)
    (simCons (simIf (simB_cmp (simCallFn rfl rfl rfl (.cons (simVar m12) (.cons (simVar m11) (.cons (simVar m2) (.cons (simVar m4) .nil (fun zz1 => rfl)) (fun zz1 => rfl)) (fun zz1 => rfl)) (fun zz1 => rfl)) h_matches_default.simN) (simCmp (simVar m17) (simVar m15) sim_eq) sim_ne) (simOne (simReturn simConst_bool)) simNil)
    (simCons (simIf (simB_cmp (simCallFn rfl rfl rfl (.cons (simVar m11) (.cons (simVar m12) (.cons (simVar m2) (.cons (simVar m4) .nil (fun zz1 => rfl)) (fun zz1 => rfl)) (fun zz1 => rfl)) (fun zz1 => rfl)) h_matches_default.simN) (simCmp (simVar m17) (simVar m15) sim_eq) sim_ne) (simOne (simReturn simConst_bool)) simNil)
    (simOne (simReturn (simCmp (simCallFn rfl rfl rfl (.cons (simVar m6) (.cons (simVar m12) (.cons (simVar m15) .nil (fun zz1 => rfl)) (fun zz1 => rfl)) (fun zz1 => rfl)) h_law_is_read.simN) (simCmp (simVar m17) (simVar m15) sim_eq) sim_eq))))))) ?pH)) ?pG))))) ?pF))) ?pE)) ?pD)) ?pC)) ?pB)))) ?p0
  case pH =>
    rintro ρ σ P wf ⟨lw, sp, lt, li, nb, D, TT, tk, lp, lx, ll, part, text, V, X, hT, r11, r12, r15, np, nx, nl, ep, ex, el, hpk, htk, hpz, htz, fin⟩
    refine ⟨_, r12, ?_⟩
    refine gSeqL (ex) ?_
    refine ⟨push_old wf ex, ?_⟩
    have K1 : Keeps NoW σ (σ.push (.list [])) := (Keeps.refl wf).pushI
    refine foldedL (push_wf wf) push_new (X.told.keep0 wf K1) (X.ne_n wf) V.r3 V.r4 (by (first | lia | omega)) (fun c => (hT.len tk c).2) (fun σ' K => K.at (push_wf wf) (push_old wf ex) (Nat.ne_of_lt (wf _ _ ex))) ?_
    intro ρ1 σ2 K2 e17
    have K02 := K2.fresh0
    have w2 := K2.wf
    have X2 := X.keep0 wf K02
    have ep2 := K02.mono' wf _ _ ep
    have ex2 := K02.mono' wf _ _ ex
    have el2 := K02.mono' wf _ _ el
    have hp0 : ∀ c ∈ part, 0 ≤ c := fun c hc => (known_nonneg c (hpk c hc)).1
    have hx0 : ∀ c ∈ text, 0 ≤ c := fun c hc => (known_nonneg c (htk c hc)).1
    refine ⟨_, r11, _, r12, trivial, ?_⟩
    refine bothL X2 w2 V.r2 V.r4 ep2 ex2 hp0 hx0 (by (first | lia | omega)) (by (first | lia | omega)) ?_
    intro σ3 a b K3 e3 ea eb
    have K03 := K02.trans K3
    have X3 := X.keep0 wf K03
    have ep3 := K03.mono' wf _ _ ep
    have ex3 := K03.mono' wf _ _ ex
    have el3 := K03.mono' wf _ _ el
    have e17' := K3.mono' w2 _ _ e17
    refine ⟨_, r15, _, rfl, ?_⟩
    have K4 : Keeps NoW σ3 (σ3.push (.list [.ref ll, .ref σ.n])) := (Keeps.refl K3.wf).pushI
    have w4 := K4.wf
    have e4 : (σ3.push (.list [.ref ll, .ref σ.n])).obj σ3.n = some (.list [.ref ll, .ref σ.n]) := push_new
    have X4 := X3.keep0 K3.wf K4
    have ep4 := K4.mono' K3.wf _ _ ep3
    have ex4 := K4.mono' K3.wf _ _ ex3
    have el4 := K4.mono' K3.wf _ _ el3
    have e174 := K4.mono' K3.wf _ _ e17'
    have e34 := K4.mono' K3.wf _ _ e3
    have ea4 := K4.mono' K3.wf _ _ ea
    have eb4 := K4.mono' K3.wf _ _ eb
    show gNe' (.ref σ2.n) (.ref σ3.n) (σ3.push (.list [.ref ll, .ref σ.n])) _
    generalize σ3.push (.list [.ref ll, .ref σ.n]) = σ4 at *
    refine gNe_rows e34 e4 (.cons a _ _ _ ea4 (.cons b _ _ _ eb4 .nil)) (.cons ll _ _ _ el4 (.cons σ.n _ _ _ e174 .nil)) ?_
    refine ⟨_, rfl, fun h => absurd h (by simp), fun zz1 => ?_⟩
    obtain ⟨rows, B4⟩ := X4.db
    refine ⟨_, r12, _, r11, _, V.r2, _, V.r4, i_match B4 ex4 ep4 hx0 hp0 (by (first | lia | omega)) (by (first | lia | omega)) fun σ5 K5 => ?_⟩
    have e175 := K5.mono' w4 _ _ e174
    have el5 := K5.mono' w4 _ _ el4
    refine ⟨_, rfl, _, r15, _, EqR.lints e175 el5, .inr (.inl ⟨_, _, rfl, rfl, _, rfl, fun h => absurd h (by simp), fun zz1 => ?_⟩)⟩
    have ex5 := K5.mono' w4 _ _ ex4
    have ep5 := K5.mono' w4 _ _ ep4
    refine ⟨_, r11, _, r12, _, V.r2, _, V.r4, i_match (B4.keep0 w4 K5) ep5 ex5 hp0 hx0 (by (first | lia | omega)) (by (first | lia | omega)) fun σ6 K6 => ?_⟩
    have e176 := K6.mono' K5.wf _ _ e175
    have el6 := K6.mono' K5.wf _ _ el5
    have hcomm : decide (folds TT (stsOf true tk) part = folds TT (stsOf true tk) text) = decide (folds TT (stsOf true tk) text = folds TT (stsOf true tk) part) := decide_eq_decide.mpr eq_comm
    refine ⟨_, rfl, _, r15, _, EqR.lints e176 el6, .inr (.inl ⟨_, _, rfl, rfl, _, rfl, fun h => absurd h (by rw [hcomm]; simp), fun zz1 => ?_⟩)⟩
    have ex6 := K6.mono' K5.wf _ _ ex5
    have X6 := (X4.keep0 w4 K5).keep0 K5.wf K6
    have hst : ∀ x ∈ folds TT (stsOf true tk) part, foldT TT (stsOf true tk) x = [x] ∧ x ∈ knownL := fun x hx => by
      obtain ⟨c, hc, hx⟩ := List.mem_flatMap.mp hx
      exact hT.stay tk (hpk c hc) x hx
    have hflen : (folds TT (stsOf true tk) part).length ≤ 1000 := by
      have := folds_len B4 (stsOf true tk) part
      (first | lia | omega)
    refine ⟨_, V.r6, _, r12, _, r15, i_read X6.idx ex6 el6 (fun x hx => (known_nonneg x (hst x hx).2).1) (by (first | lia | omega)) hflen fun σ7 K7 => ?_⟩
    have e177 := K7.mono' K6.wf _ _ e176
    have el7 := K7.mono' K6.wf _ _ el6
    refine ⟨_, rfl, _, r15, _, EqR.lints e177 el7, _, EqR.bool _ _, ?_⟩
    have hread := hT.read tk (wh := wholeP TT tk (csOf TT)) (un := unfP TT tk (csOf TT)) (folds TT (stsOf true tk) part) (fun x hx => hT.whole tk hT.codesOk fun zz1 => (hst x hx).2) (fun g hg => hT.unf tk hT.codesOk hg) text 0 htk (Nat.zero_le _)
    rw [hread, List.drop_zero]
    have : (decide (folds TT (stsOf true tk) text = folds TT (stsOf true tk) part) == decide (folds TT (stsOf true tk) text = folds TT (stsOf true tk) part)) = true := by simp
    rw [this]
    exact fin _ _
  case pG =>
    rintro ρ σ P wf ⟨lw, sp, lt, li, nb, D, TT, tk, lp, lx, lg, ll, way, part, text, V, X, hT, r11, r12, r13, r14, r15, np, nx, ng, nl, ep, ex, eg, el, hpk, htk, hpz, htz, fin⟩
    have hst : ∀ c ∈ part, ∀ x ∈ foldT TT (stsOf true tk) c, foldT TT (stsOf true tk) x = [x] ∧ x ∈ knownL := fun c hc x hx => hT.stay tk (hpk c hc) x hx
    refine ⟨_, r14, _, _, rfl, rfl, _, rfl, fun ht => ?_, fun zz1 => ?_⟩
    · -- exchanged, then the rest
      have hex : ∀ (σ1 : St) (lg' : Nat) (gs : List (List Int)) (Q : AV → St → Prop), Keeps NoW σ σ1 → σ1.obj lg' = some (.list (gs.map fun g => .tup (intsA g))) → (∀ g ∈ gs, alikeP TT tk g ≠ []) → gs.length ≤ 12 →
          (∀ σ2 r found, Keeps (WW lw sp) σ σ2 → Wd σ2 lw sp lt li nb D TT tk → σ.n ≤ r → σ2.obj r = some (.list (intsA found)) → (∀ x ∈ found, x ∈ knownL) → found.length ≤ 12 → Q (.ref r) σ2) → gExch [.ref lw, .ref lt, .bool tk, .ref lg'] σ1 Q := fun σ1 lg' gs Q K e hne hz hq => by
        have X1 := X.keep0 wf K
        refine i_exch X1.wheel X1.told e hne (by (first | lia | omega)) fun σ2 r found K2 W2 hr er hf hfl => ?_
        exact hq σ2 r found (K.off.trans K2) (X1.step K.wf K2 W2) (Nat.le_trans K.le hr) er hf (by (first | lia | omega))
      refine ⟨_, V.r1, _, V.r3, _, V.r4, _, r14, _, .int _ _, _, rfl, fun hw => ?_, fun hw => ?_⟩
      · refine ⟨_, r13, ?_⟩
        refine hex σ lg (part.map fun c => foldT TT (stsOf true tk) c) _ (Keeps.refl wf) (by rw [eg, List.map_map]; rfl) (fun g hg => ?_) (by rw [List.length_map]; (first | lia | omega)) (fun σ2 r found K2 X2 hr er hf hfl => ?_)
        · obtain ⟨c, hc, rfl⟩ := List.mem_map.mp hg
          exact List.ne_nil_of_mem (mem_alike.mpr ⟨hpk c hc, rfl⟩)
        exact ⟨lw, sp, lt, li, nb, D, TT, tk, lx, r, text, found, ⟨V.r1, V.r2, V.r3, V.r4, V.r6⟩, X2, r12, rfl, nx, Nat.le_trans (Nat.le_of_lt (X.nbn wf)) hr, X.at_ wf K2 nx ex, er, htk, hf, htz, hfl, fun σ3 l' t' K3 X3 hl' e' ht' hz' =>
          ⟨lw, sp, lt, li, nb, D, TT, tk, lp, l', ll, part, t', ⟨V.r1, V.r2, V.r3, V.r4, V.r6⟩, X3, hT, r11, rfl, r15, np, hl', nl, X.at_ wf (K2.trans K3) np ep, e', X.at_ wf (K2.trans K3) nl el, hpk, ht', hpz, hz', fin⟩⟩
      · refine ⟨_, r15, ?_⟩
        refine gSeqL (el) ?_
        refine ⟨push_old wf el, ?_⟩
        have hll := hT.len tk
        have hfz : (folds TT (stsOf true tk) part).length ≤ 12 := by
          obtain ⟨rows, B⟩ := X.db
          have := folds_len B (stsOf true tk) part
          (first | lia | omega)
        refine onesL (push_wf wf) push_new (by (first | lia | omega)) (fun σ' K => K.at (push_wf wf) (push_old wf el) (Nat.ne_of_lt (wf _ _ el))) ?_
        intro ρ1 σ1 K1 e1
        have K01 := K1.fresh0
        refine hex σ1 σ.n ((folds TT (stsOf true tk) part).map fun c => [c]) _ K01 (by rw [e1, List.map_map]; rfl) (fun g hg => ?_) (by rw [List.length_map]; exact hfz) (fun σ2 r found K2 X2 hr er hf hfl => ?_)
        · obtain ⟨y, hy, rfl⟩ := List.mem_map.mp hg
          obtain ⟨c, hc, hy⟩ := List.mem_flatMap.mp hy
          have := hst c hc y hy
          exact List.ne_nil_of_mem (mem_alike.mpr ⟨this.2, this.1⟩)
        exact ⟨lw, sp, lt, li, nb, D, TT, tk, lx, r, text, found, ⟨V.r1, V.r2, V.r3, V.r4, V.r6⟩, X2, r12, rfl, nx, Nat.le_trans (Nat.le_of_lt (X.nbn wf)) hr, X.at_ wf K2 nx ex, er, htk, hf, htz, hfl, fun σ3 l' t' K3 X3 hl' e' ht' hz' =>
          ⟨lw, sp, lt, li, nb, D, TT, tk, lp, l', ll, part, t', ⟨V.r1, V.r2, V.r3, V.r4, V.r6⟩, X3, hT, r11, rfl, r15, np, hl', nl, X.at_ wf (K2.trans K3) np ep, e', X.at_ wf (K2.trans K3) nl el, hpk, ht', hpz, hz', fin⟩⟩
    · exact ⟨lw, sp, lt, li, nb, D, TT, tk, lp, lx, ll, part, text, V, X, hT, r11, r12, r15, np, nx, nl, ep, ex, el, hpk, htk, hpz, by (first | lia | omega), fin⟩
  case pMore =>
    rintro ρ σ P wf ⟨lw, sp, lt, li, nb, D, TT, tk, lx, r, text, found, V, X, r12, r16, nx, nr, ex, er, htk, hfk, htz, hfz, q⟩
    refine ⟨_, r16, _, r16, _, found.length, rfl, by simp [lenA, er], by (first | lia | omega), _, V.r1, ?_⟩
    refine X.turn wf (by decide) (by decide) fun σ1 t K1 X1 ht0 ht2 => ?_
    have er1 := X.at_ wf K1 nr er
    refine ⟨_, _, rfl, rfl, trivial, ?_⟩
    refine i_cutTo (cutI _ _) er1 (by rw [List.length_map]; (first | lia | omega)) ?_
    have hm : ∀ k, ∀ c ∈ found.take k, c ∈ knownL := fun k c hc => hfk c (List.mem_of_mem_take hc)
    have hl : ∀ k, (found.take k).length ≤ 12 := fun k => by rw [List.length_take]; (first | lia | omega)
    have hm' := hm (clipAt found.length ((found.length : Int) - t))
    have hl' := hl (clipAt found.length ((found.length : Int) - t))
    generalize found.take (clipAt found.length ((found.length : Int) - t)) = cutd at hm' hl' ⊢
    have K2 : Keeps NoW σ1 (σ1.push (.list (intsA cutd))) := (Keeps.refl K1.wf).pushI
    have e2 : (σ1.push (.list (intsA cutd))).obj σ1.n = some (.list (intsA cutd)) := push_new
    have X2 := X1.keep0 K1.wf K2
    have hn1 := X1.nbn K1.wf
    have K02 := K1.trans (K2.off (W := WW lw sp))
    generalize σ1.push (.list (intsA cutd)) = σ2 at K2 e2 X2 K02 ⊢
    refine ⟨_, V.r1, ?_⟩
    refine X2.turn K2.wf (by decide) (by decide) fun σ3 t3 K3 X3 h30 h33 => ?_
    have e3 := X2.at_ K2.wf K3 (Nat.le_of_lt hn1) e2
    have K03 := K02.trans K3
    have ex3 := X.at_ wf K03 nx ex
    refine ⟨_, .int _ _, _, rfl, fun zz1 => ?_, fun zz1 => ?_⟩
    · refine ⟨_, r12, .inr (.inl ⟨_, _, _, _, rfl, rfl, e3, ex3, by simp; (first | lia | omega), ?_⟩)⟩
      have K4 : Keeps NoW σ3 (σ3.push (.list (intsA cutd ++ intsA text))) := (Keeps.refl K3.wf).pushI
      refine q _ σ3.n (cutd ++ text) (K03.trans K4.off) (X3.keep0 K3.wf K4) (Nat.le_of_lt (X3.nbn K3.wf)) (by rw [push_new]; simp) (fun c hc => ?_) (by rw [List.length_append]; (first | lia | omega))
      rcases List.mem_append.mp hc with h | h
      · exact hm' c h
      · exact htk c h
    · have K4 : Keeps NoW σ3 (σ3.push (.list [])) := (Keeps.refl K3.wf).pushI
      refine .inr (.inl ⟨_, _, _, _, rfl, rfl, push_old K3.wf e3, push_new, by simp; (first | lia | omega), ?_⟩)
      have K5 : Keeps NoW σ3 ((σ3.push (.list [])).push (.list (intsA cutd ++ []))) := K4.pushI
      refine q _ (σ3.n + 1) cutd (K03.trans K5.off) (X3.keep0 K3.wf K5) (Nat.le_succ_of_le (Nat.le_of_lt (X3.nbn K3.wf))) ?_ hm' (by (first | lia | omega))
      have : ((σ3.push (.list [])).push (.list (intsA cutd ++ []))).obj (σ3.n + 1) = some (.list (intsA cutd ++ [])) := push_new
      rw [this, List.append_nil]
  case pF =>
    rintro ρ σ P wf ⟨lw, sp, lt, li, nb, D, TT, tk, V, X, hT, fin⟩
    have hn := X.nbn wf
    refine ⟨_, V.r1, ?_⟩
    refine X.turn wf (by decide) (by decide) fun σ1 t1 K1 X1 h10 h11 => ?_
    have hn1 := X1.nbn K1.wf
    refine ⟨_, rfl, 0, t1, rfl, by decide, by decide, by (first | lia | omega), by (first | lia | omega), trivial, ?_⟩
    refine X1.draw K1.wf (L := knownL) rfl (by decide) (by decide) (by (first | lia | omega)) V.r1 ?_
    intro σ2 part K2 X2 ep hpl hpk
    have hn2 := X2.nbn K2.wf
    refine ⟨_, V.r1, ?_⟩
    refine X2.turn K2.wf (by decide) (by decide) fun σ3 t3 K3 X3 h30 h31 => ?_
    have hn3 := X3.nbn K3.wf
    have ep3 := X2.at_ K2.wf K3 (Nat.le_of_lt hn1) ep
    refine ⟨_, rfl, 0, t3, rfl, by decide, by decide, by (first | lia | omega), by (first | lia | omega), trivial, ?_⟩
    refine X3.draw K3.wf (L := knownL) rfl (by decide) (by decide) (by (first | lia | omega)) V.r1 ?_
    intro σ4 text K4 X4 ex hxl hxk
    have hn4 := X4.nbn K4.wf
    have ep4 := X3.at_ K3.wf K4 (Nat.le_of_lt hn1) ep3
    refine ⟨_, rfl, ?_⟩
    refine gSeqL (ep4) ?_
    refine ⟨push_old K4.wf ep4, ?_⟩
    have KP : Keeps NoW σ4 (σ4.push (.list [])) := (Keeps.refl K4.wf).pushI
    refine foldsL (push_wf K4.wf) push_new (X4.told.keep0 K4.wf KP) (X4.ne_n K4.wf) V.r3 V.r4 (by (first | lia | omega)) (fun σ' K => K.at (push_wf K4.wf) (push_old K4.wf ep4) (Nat.ne_of_lt (K4.wf _ _ ep4))) ?_
    intro ρ5 σ5 K5 eg
    have K45 := K5.fresh0
    have X5 := X4.keep0 K4.wf K45
    have ep5 := K45.mono' K4.wf _ _ ep4
    have ex5 := K45.mono' K4.wf _ _ ex
    refine ⟨_, V.r1, ?_⟩
    refine X5.turn K5.wf (by decide) (by decide) fun σ6 way K6 X6 h60 h61 => ?_
    have ep6 := X5.at_ K5.wf K6 (Nat.le_of_lt hn1) ep5
    have ex6 := X5.at_ K5.wf K6 (Nat.le_of_lt hn3) ex5
    have eg6 := X5.at_ K5.wf K6 (Nat.le_of_lt hn4) eg
    have hn6 := X6.nbn K6.wf
    refine ⟨_, rfl, rfl, _, rfl, ?_⟩
    have hgm : (part.map fun c => AV.tup (intsA (foldT TT (stsOf true tk) c))) = (part.map fun c => foldT TT (stsOf true tk) c).map fun g => .tup (intsA g) := by rw [List.map_map]; rfl
    have eh6 := eg6
    rw [hgm] at eh6
    refine gSeqL (eh6) ?_
    refine ⟨push_old K6.wf eh6, ?_⟩
    refine lettersC (push_wf K6.wf) push_new (by rw [List.length_map]; (first | lia | omega)) (fun g hg => ?_) (fun σ' K => K.at (push_wf K6.wf) (push_old K6.wf eh6) (Nat.ne_of_lt (K6.wf _ _ eh6))) ?_
    · obtain ⟨c, hc, rfl⟩ := List.mem_map.mp hg
      exact (hT.len tk c).2
    intro ρ7 σ7 K7 el
    have K67 := K7.fresh0
    have X7 := X6.keep0 K6.wf K67
    refine ⟨lw, sp, lt, li, nb, D, TT, tk, σ1.n, σ3.n, σ4.n, σ6.n, way, part, text, ⟨V.r1, V.r2, V.r3, V.r4, V.r6⟩, X7, hT, rfl, rfl, rfl, rfl, rfl, Nat.le_of_lt hn1, Nat.le_of_lt hn3, Nat.le_of_lt hn4, Nat.le_of_lt hn6, K67.mono' K6.wf _ _ ep6, K67.mono' K6.wf _ _ ex6, K67.mono' K6.wf _ _ eg6, ?_, hpk, hxk, by (first | lia | omega), by (first | lia | omega), fin⟩
    rw [el]
    rfl
  case pE =>
    rintro ρ σ P wf ⟨lw, sp, lt, li, nb, D, TT, tk, V, X, hT, fin⟩
    refine ⟨_, V.r1, ?_⟩
    refine X.turn wf (by decide) (by decide) fun σ1 t1 K1 X1 h10 h11 => ?_
    refine ⟨_, rfl, 0, t1, rfl, by decide, by decide, by (first | lia | omega), by (first | lia | omega), trivial, ?_⟩
    refine X1.draw K1.wf (L := lettersL) rfl (by decide) (by decide) (by (first | lia | omega)) V.r1 ?_
    intro σ2 row K2 X2 er hrl hrm
    have w2 := K2.wf
    have hrk : ∀ x ∈ row, x ∈ knownL := fun x hx => letters_known x (hrm x hx)
    refine i_tup er (by rw [List.length_map]; (first | lia | omega)) ?_
    have hrow3 : row.length ≤ 3 := by (first | lia | omega)
    refine ⟨_, V.r6, X2.ie rfl, _, rfl, i_spell X2.idx (fun c hc => (known_nonneg c (hrk c hc)).1) hrow3 (hT.wlen tk) ?_⟩
    intro σ3 r vs K3 hr er3 RR
    have w3 := K3.wf
    have X3 := X2.keep0 w2 K3
    refine gSeqL (er3) ?_
    refine ⟨push_old w3 er3, ?_⟩
    have hsp : spellP TT tk (csOf TT) row = textsP TT tk row := spell_texts TT tk (csOf TT) row fun x hx => hT.whole tk hT.codesOk fun zz1 => hrk x hx
    rw [hsp] at RR
    have htl : (textsP TT tk row).length ≤ 6859 := by
      have := texts_len TT tk row
      have h3 : 19 ^ row.length ≤ 19 ^ 3 := Nat.pow_le_pow_right (by decide) hrow3
      (first | lia | omega)
    refine copyRows (push_wf w3) push_new (RR.mono (fun l hl zz1 => hl) w3 fun l o zz1 e => push_old w3 e) (by rw [RR.length]; (first | lia | omega)) (fun ns hns => by rw [texts_rowlen TT tk row ns hns]; (first | lia | omega)) (fun σ' K => K.at (push_wf w3) (push_old w3 er3) (Nat.ne_of_lt (w3 _ _ er3))) ?_
    intro ρ4 σ4 ws K4 e4 RW
    have K34 := K4.fresh0
    have w4 := K4.wf
    have X4 := X3.keep0 w3 K34
    refine ⟨_, V.r3, _, V.r4, _, rfl, i_texts X4.told hrow3 ?_⟩
    intro σ5 r5 vs5 K5 hr5 e5 RR5
    refine gNe_rows (K5.mono' w4 _ _ e4) e5 (RW.mono (Q' := fun zz1 => True) (fun zz1 zz2 zz3 => trivial) w4 fun l o zz1 e => K5.mono' w4 _ _ e).rows RR5.rows ?_
    refine ⟨_, rfl, fun h => absurd h (by simp), fun zz1 => ?_⟩
    exact ⟨lw, sp, lt, li, nb, D, TT, tk, ⟨V.r1, V.r2, V.r3, V.r4, V.r6⟩, X4.keep0 w4 K5, hT, fin⟩
  case pD =>
    rintro ρ σ P wf ⟨lw, sp, lt, li, nb, D, TT, tk, ch, V, r7, X, hT, fin⟩
    refine gSeqT ?_
    refine forL_all _ (fun i ρ' σ' => Vs ρ' lw lt li D.ld tk ∧ ρ' 7 = some (.int ch) ∧ Keeps NoW σ σ') (fun zz1 zz2 zz3 => False) ?_ ?_ (fun zz1 zz2 zz3 h => h.elim) ⟨V, r7, Keeps.refl wf⟩
    · rintro i v ρ' σ' Q hv ⟨V', s7, K⟩ hQ hR
      rw [List.getElem?_map] at hv
      cases hx : knownL[i]? with
      | none => rw [hx] at hv; cases hv
      | some c =>
        rw [hx] at hv; cases hv
        exact ⟨lw, sp, lt, li, nb, D, TT, tk, ch, c, ⟨V'.r1, V'.r2, V'.r3, V'.r4, V'.r6⟩, s7, rfl, List.mem_of_getElem? hx, X.keep0 wf K, hT, fun ρ2 σ2 V2 t7 K2 => (hQ ρ2 σ2 ⟨V2, t7, K.trans K2⟩ trivial).1⟩
    · rintro ρ' σ' ⟨V', s7, K⟩
      exact ⟨lw, sp, lt, li, nb, D, TT, tk, V', X.keep0 wf K, hT, fin⟩
  case pDb =>
    rintro ρ σ P wf ⟨lw, sp, lt, li, nb, D, TT, tk, ch, c, V, r7, r5, hc, X, hT, q⟩
    have hc0 := (known_nonneg c hc).1
    refine ⟨_, V.r3, _, V.r4, _, r5, i_lawfold X.told fun σ1 K1 => ?_⟩
    have w1 := K1.wf
    have X1 := X.keep0 wf K1
    refine ⟨_, V.r6, X1.ie rfl, _, r5, i_whole X1.idx hc0 fun σ2 r K2 hr er => ?_⟩
    have hwl := hT.wlen tk c
    refine i_list er (by rw [List.length_map]; (first | lia | omega)) ?_
    have KP : Keeps NoW σ2 (σ2.push (.list (intsA (wholeP TT tk (csOf TT) c)))) := (Keeps.refl K2.wf).pushI
    have e3 : (σ2.push (.list (intsA (wholeP TT tk (csOf TT) c)))).obj σ2.n = _ := push_new
    have K03 := (K1.trans K2).trans KP
    have w3 := KP.wf
    generalize σ2.push (.list (intsA (wholeP TT tk (csOf TT) c))) = σ3 at e3 K03 w3 ⊢
    have X3 := X.keep0 wf K03
    refine ⟨_, V.r3, _, V.r4, _, r5, i_alike (g := [c]) X3.told fun σ4 r4 K4 hr4 er4 => ?_⟩
    refine gNe_lints (K4.mono' w3 _ _ e3) er4 ?_
    have hw : wholeP TT tk (csOf TT) c = alikeP TT tk [c] := hT.whole tk hT.codesOk fun zz1 => hc
    refine ⟨_, rfl, fun h => absurd h (by rw [hw]; simp), fun zz1 => ?_⟩
    have K04 := K03.trans K4
    have w4 := K4.wf
    have X4 := X.keep0 wf K04
    have hlen := hT.len tk c
    have fin : ∀ σ5, Keeps NoW σ σ5 → gDue (upd ρ 8 (some (.tup (intsA (foldT TT (stsOf true tk) c))))) σ5 P := fun σ5 K5 =>
      ⟨lw, sp, lt, li, nb, D, TT, tk, ch, c, ⟨V.r1, V.r2, V.r3, V.r4, V.r6⟩, r7, r5, rfl, hc, X.keep0 wf K5, hT, fun ρ' σ' V' s7 K' => q ρ' σ' V' s7 (K5.trans K')⟩
    refine ⟨_, rfl, _, _, rfl, rfl, by rw [List.length_map]; (first | lia | omega), _, _, rfl, rfl, _, rfl, fun hgt => ?_, fun zz1 => ⟨fun h => (nomatch h), fun zz1 => fin _ K04⟩⟩
    have hl1 : (foldT TT (stsOf true tk) c).length ≠ 1 := by
      have := of_decide_eq_true hgt
      rw [List.length_map] at this
      (first | lia | omega)
    refine ⟨_, V.r6, X4.ie rfl, _, rfl, i_unf X4.idx (by (first | lia | omega)) fun σ5 r5' K5 hr5 er5 => ?_⟩
    have hu : unfP TT tk (csOf TT) (foldT TT (stsOf true tk) c) = alikeP TT tk (foldT TT (stsOf true tk) c) := hT.unf tk hT.codesOk hl1
    rw [hu] at er5
    have hal := alike_len TT tk (foldT TT (stsOf true tk) c)
    refine i_list er5 (by rw [List.length_map]; (first | lia | omega)) ?_
    have KP5 : Keeps NoW σ5 (σ5.push (.list (intsA (alikeP TT tk (foldT TT (stsOf true tk) c))))) := (Keeps.refl K5.wf).pushI
    have e6 : (σ5.push (.list (intsA (alikeP TT tk (foldT TT (stsOf true tk) c))))).obj σ5.n = _ := push_new
    have K06 := (K04.trans K5).trans KP5
    have w6 := KP5.wf
    generalize σ5.push (.list (intsA (alikeP TT tk (foldT TT (stsOf true tk) c)))) = σ6 at e6 K06 w6 ⊢
    have X6 := X.keep0 wf K06
    refine ⟨_, V.r3, _, V.r4, _, rfl, i_alike X6.told fun σ7 r7' K7 hr7 er7 => ?_⟩
    refine gNe_lints (K7.mono' w6 _ _ e6) er7 ?_
    exact ⟨_, rfl, fun h => absurd h (by simp), fun zz1 => fin _ (K06.trans K7)⟩
  case pDue =>
    rintro ρ σ P wf ⟨lw, sp, lt, li, nb, D, TT, tk, ch, c, V, r7, r5, r8, hc, X, hT, q⟩
    have hlen := hT.len tk c
    have fin : ∀ σ' r ws, Keeps NoW σ σ' → σ'.obj r = some (.list ws) → RowsQ (fun zz1 => True) σ' ws (dueP TT tk ch c) → gLast (upd ρ 9 (some (.ref r))) σ' P := fun σ' r ws K e R =>
      ⟨lw, sp, lt, li, nb, D, TT, tk, ch, c, r, ws, ⟨V.r1, V.r2, V.r3, V.r4, V.r6⟩, r7, r5, rfl, e, R, hc, X.keep0 wf K, hT, fun ρ2 σ2 V' s7 K' => q ρ2 σ2 V' s7 (K.trans K')⟩
    have empty : ¬ (c = ch ∧ 1 < (foldT TT (stsOf true tk) c).length) → gLast (upd ρ 9 (some (.ref σ.n))) (σ.push (.list [])) P := fun h => by
      refine fin _ σ.n [] (Keeps.refl wf).pushI push_new ?_
      unfold dueP
      rw [if_neg h]; exact .nil
    refine ⟨_, r5, _, r7, _, .int _ _, _, rfl, fun ht => ?_, fun hf => ⟨fun h => (nomatch h), fun zz1 => empty fun h => ?_⟩⟩
    · have hcc : c = ch := by simpa using ht
      refine ⟨_, r8, _, _, rfl, rfl, by rw [List.length_map]; (first | lia | omega), _, _, rfl, rfl, _, rfl, fun hg => ?_, fun hg => empty fun h => ?_⟩
      · have h1 := of_decide_eq_true hg
        rw [List.length_map] at h1
        refine ⟨_, V.r3, _, V.r4, _, r8, i_texts X.told (by (first | lia | omega)) ?_⟩
        intro σ1 r vs K1 hr er RR
        refine fin σ1 r vs K1 er ?_
        unfold dueP
        rw [if_pos ⟨hcc, by (first | lia | omega)⟩]
        exact RR.mono (fun zz1 zz2 zz3 => trivial) K1.wf fun zz1 zz2 zz3 e => e
      · have h1 := of_decide_eq_false hg
        rw [List.length_map] at h1
        have := h.2
        (first | lia | omega)
    · have := h.1
      subst this
      simp at hf
  case pLast =>
    rintro ρ σ P wf ⟨lw, sp, lt, li, nb, D, TT, tk, ch, c, rd, wd, V, r7, r5, r9, ed, RD, hc, X, hT, q⟩
    have hc0 := (known_nonneg c hc).1
    have hlen := hT.len tk c
    have hst := hT.stay tk hc
    refine ⟨_, r5, _, r7, _, .int _ _, _, rfl, fun ht => ?_, fun hf => ⟨fun h => (nomatch h), fun zz1 => q ρ σ V r7 (Keeps.refl wf)⟩⟩
    have hcc : c = ch := by simpa using ht
    refine ⟨_, V.r6, X.ie rfl, _, r5, i_strings X.idx hc0 (fun x hx => (known_nonneg x (hst x hx).2).1) (hT.wlen tk) ?_⟩
    intro σ1 r vs K1 hr er RR
    have w1 := K1.wf
    have hs : stringsP TT tk (csOf TT) c = dueP TT tk ch c := by
      unfold stringsP dueP
      by_cases h1 : (foldT TT (stsOf true tk) c).length = 1
      · rw [if_pos h1, if_neg (fun h => by (first | lia | omega))]
      · rw [if_neg h1, if_pos ⟨hcc, by (first | lia | omega)⟩]
        exact spell_texts TT tk (csOf TT) _ fun x hx => hT.whole tk hT.codesOk fun zz1 => (hst x hx).2
    rw [hs] at RR
    have hdl : (dueP TT tk ch c).length ≤ 6859 ∧ ∀ ns ∈ dueP TT tk ch c, ns.length ≤ 1000 := by
      unfold dueP
      split
      · refine ⟨?_, fun ns hns => by rw [texts_rowlen TT tk _ ns hns]; (first | lia | omega)⟩
        have := texts_len TT tk (foldT TT (stsOf true tk) c)
        have h3 : 19 ^ (foldT TT (stsOf true tk) c).length ≤ 19 ^ 3 := Nat.pow_le_pow_right (by decide) hlen.2
        (first | lia | omega)
      · exact ⟨by simp, fun ns h => by cases h⟩
    refine gSeqL (er) ?_
    refine ⟨push_old w1 er, ?_⟩
    refine copyRows (push_wf w1) push_new (RR.mono (fun l hl zz1 => hl) w1 fun l o zz1 e => push_old w1 e) (by rw [RR.length]; (first | lia | omega)) hdl.2 (fun σ' K => K.at (push_wf w1) (push_old w1 er) (Nat.ne_of_lt (w1 _ _ er))) ?_
    intro ρ2 σ2 ws K2 e2 RW
    have K12 := K2.fresh0
    have K02 := K1.trans K12
    refine ⟨_, r9, ?_⟩
    refine gNe_rows e2 (K02.mono' wf _ _ ed) RW.rows (RD.mono (Q' := fun zz1 => True) (fun zz1 zz2 h => h) wf fun l o zz1 e => K02.mono' wf _ _ e).rows ?_
    exact ⟨_, rfl, ⟨fun h => absurd h (by simp), fun zz1 => q ρ σ2 V r7 K02⟩⟩
  case pC =>
    rintro ρ σ P wf ⟨lw, sp, lt, D, TT, tk, rows, r1, r2, r3, r4, W, R, hT, B, ap, hone, hlive, hpos, hpl, hn, fin⟩
    refine ⟨_, r2, _, r4, D, TT, rows, tk, rfl, B, hone, hpl, hpos, by (first | lia | omega), ?_⟩
    intro σ1 li o1 om ow m1 mm mw k K1 IXx hli hm hw hk
    have hwl := W.lt wf
    rw [hlive] at hm hw
    have hlen : (liveR rows).length = (csOf TT).length := by rw [← hlive, List.length_map]
    have hcl := hT.cs_len
    have X1 : Wd σ1 lw sp lt li σ.n D TT tk := ⟨W.keep0 wf K1, R.keep0 wf K1, ⟨rows, B.keep0 wf K1⟩, ap, ⟨o1, om, ow, m1, mm, mw, k, IXx, by (first | lia | omega), hm, hw⟩, hwl.1, hwl.2, hli⟩
    refine ⟨_, r1, ?_⟩
    refine X1.turn K1.wf (by decide) (by decide) fun σ2 t K2 X2 h0 h1 => ?_
    refine gItemT ?_
    have htn : t.toNat < knownL.length := by show t.toNat < 19; (first | lia | omega)
    refine ⟨h0, by (first | lia | omega), .int knownL[t.toNat], by rw [List.getElem?_map, List.getElem?_eq_getElem htn]; rfl, _, rfl, rfl, ?_⟩
    exact ⟨lw, sp, lt, li, σ.n, D, TT, tk, knownL[t.toNat], ⟨r1, r2, r3, r4, rfl⟩, rfl, X2, hT, fin⟩
  case pB =>
    rintro ρ σ P wf ⟨lw, sp, lt, D, TT, tk, r1, r2, r3, r4, W, R, hT, R0, fin⟩
    have hkl := hT.klen
    refine ⟨_, r3, lt, TT.map (·.1), rfl, by (first | lia | omega), .inr ⟨_, R.at_, by rw [List.map_map]; rfl⟩, ?_⟩
    have K0 : Keeps NoW σ (σ.push (.list (intsA (srt (TT.map (·.1)))))) := (Keeps.refl wf).pushI
    have e0 : (σ.push (.list (intsA (srt (TT.map (·.1)))))).obj σ.n = some (.list (intsA (csOf TT))) := push_new
    have w0 := K0.wf
    have W0 := W.keep0 wf K0
    have T0 := R.keep0 wf K0
    obtain ⟨kd, d1, d2, d3, d4⟩ := R0.df
    have D0 : DR0 (σ.push (.list (intsA (srt (TT.map (·.1)))))) D := ⟨K0.mono' wf _ _ R0.at_, K0.mono' wf _ _ R0.mp, kd, K0.mono' wf _ _ d1, d2, d3, d4⟩
    have hlwn := W.lt wf
    generalize hσ0 : σ.push (.list (intsA (srt (TT.map (·.1))))) = σ0 at K0 e0 w0 W0 T0 D0 ⊢
    have hlw0 := W0.lt w0
    refine gSeqL (e0) ?_
    refine forL_all _ (fun i ρ' σ' => ρ' 1 = some (.ref lw) ∧ ρ' 2 = some (.inst 248 D.ld) ∧ ρ' 3 = some (.ref lt) ∧ ρ' 4 = some (.bool tk) ∧ ∃ D' rows, PInv σ0 σ' D TT i D' rows) (fun zz1 zz2 zz3 => False) ?_ ?_ (fun zz1 zz2 zz3 h => h.elim) ⟨r1, r2, r3, r4, D, _, PInv.start w0 D0⟩
    · rintro i v ρ' σ' Q hv ⟨s1, s2, s3, s4, D', rows, I⟩ hQ hR
      rw [List.getElem?_map] at hv
      cases hx : (csOf TT)[i]? with
      | none => rw [hx] at hv; cases hv
      | some c =>
        rw [hx] at hv; cases hv
        have eld : ∃ kvs, σ'.obj D.ld = some (.dS kvs) ∧ look kvs (Str.ofString "put") = none := by
          rw [← I.ld]
          rcases I.any with h | ⟨h, _⟩
          · exact ⟨_, h.at_, rfl⟩
          · exact ⟨_, h.at_, rfl⟩
        obtain ⟨kvs, ek, hk⟩ := eld
        have elt : σ'.obj lt = _ := I.keeps.at w0 T0.at_ (obj_ne T0.at_ D0.mp (by simp))
        refine ⟨_, s2, ⟨D.ld, kvs, rfl, ek, hk⟩, _, rfl, _, rfl, _, s3, _, rfl, ?_⟩
        first | refine gItemL (elt) ?_ | refine gItemS (elt) ?_ | refine gItemI (elt) ?_
        obtain ⟨t, hf⟩ := findT_of (csOf_mem.mp (List.mem_of_getElem? hx))
        have hv : valT TT c = .ref t.2.1 := by unfold valT; rw [hf]
        refine ⟨valT TT c, by rw [look_told, hf, hv]; rfl, ?_⟩
        refine I.step hT w0 D0 T0 hx fun σ2 D2 rows2 I2 => ?_
        refine ⟨rfl, (hQ (upd ρ' 5 (some (.int c))) σ2 ⟨s1, s2, s3, s4, D2, rows2, I2⟩ ?_).1⟩
        exact I2.keeps.at w0 e0 (obj_ne e0 D0.mp (by simp))
    · rintro ρ' σ' ⟨s1, s2, s3, s4, D', rows, I⟩
      rw [List.length_map] at I
      obtain ⟨B, h1, h2, h3, h4, h5, h6, h7, h8⟩ := I.done hT w0 D0 T0
      have hww : ∀ y o, σ0.obj y = some o → y ≠ D.m → σ'.obj y = some o := fun y o e hne => I.keeps.at w0 e hne
      obtain ⟨rr, ns, e1, e2, hns⟩ := W0.ex
      have f1 := hww lw _ e1 (obj_ne e1 D0.mp (by simp))
      have f2 := hww sp _ e2 (obj_ne e2 D0.mp (by simp))
      have notlw : ∀ y, (y = D'.ld ∨ y = D'.m ∨ y = D'.lm ∨ y = D'.a ∨ y = D'.b ∨ ∃ t ∈ TT, y = t.2.1) → ¬ WW lw sp y := by
        intro y hy hw
        rcases hy with rfl | rfl | rfl | rfl | rfl | ⟨t, ht, rfl⟩
        · rcases hw with h | h
          · exact obj_ne B.dr.at_ f1 (by simp) h
          · exact obj_ne B.dr.at_ f2 (by simp) h
        · rcases hw with h | h
          · exact obj_ne B.dr.mp f1 (by simp) h
          · exact obj_ne B.dr.mp f2 (by simp) h
        · rcases hw with h | h <;> (first | lia | omega)
        · rcases hw with h | h <;> (first | lia | omega)
        · rcases hw with h | h <;> (first | lia | omega)
        · rcases hw with h | h
          · refine obj_ne (B.at_ t ht) f1 ?_ h
            intro he
            injection he with he
            cases hr : t.2.2 with
            | nil => rw [hr] at he; cases he
            | cons a b => rw [hr] at he; simp [rowA] at he
          · exact obj_ne (B.at_ t ht) f2 (by simp) h
      refine ⟨lw, sp, lt, D', TT, tk, rows, s1, by rw [s2, I.ld], s3, s4, ⟨rr, ns, f1, f2, hns⟩, ⟨hww lt _ T0.at_ (obj_ne T0.at_ D0.mp (by simp)), B.at_⟩, hT, B, notlw, h1, h2, h3, h4, h5, fin⟩
  case p0 =>
    rintro vs σ P wf ⟨ns, rfl, hn, q⟩
    refine ⟨rfl, ?_⟩
    refine ⟨_, rfl, i_cutLst (cutI _ _) (by rw [List.length_map]; (first | lia | omega)) ?_⟩
    have hxl : (ns.take (clipAt ns.length 63)).length ≤ 63 := by rw [List.length_take]; (first | lia | omega)
    generalize ns.take (clipAt ns.length 63) = xs at hxl ⊢
    have wa := push_wf (o := .dS []) wf
    have wb := push_wf (o := .list (intsA xs)) wa
    have eb : ((σ.push (.dS [])).push (.list (intsA xs))).obj (σ.push (.dS [])).n = some (.list (intsA xs)) := push_new
    have ed : ((σ.push (.dS [])).push (.list (intsA xs))).obj σ.n = some (.dS []) := push_old wa push_new
    have hσn : σ.n < ((σ.push (.dS [])).push (.list (intsA xs))).n := wb _ _ ed
    refine gSeqL (eb) ?_
    refine ⟨push_old wb eb, ?_⟩
    refine spokesL (push_wf wb) push_new (by (first | lia | omega)) (fun σ' K => K.at (push_wf wb) (push_old wb eb) (Nat.ne_of_lt (wb _ _ eb))) ?_
    intro ρ1 σ2 ls K2 e2 hl hpos
    have KB := K2.fresh0
    have ed2 := KB.mono' wb _ _ ed
    have hσ2 : σ.n < σ2.n := Nat.lt_of_lt_of_le hσn KB.le
    refine ⟨_, intsA ls, rfl, e2, by rw [List.length_map]; (first | lia | omega), ?_⟩
    refine ⟨[("spokes", .ref σ2.n), ("round", .int 0)], rfl, push_old K2.wf ed2, ?_⟩
    have w3 : WF ((σ2.push (.list (intsA ls).reverse)).set σ.n (.dS (putAll [] [("spokes", .ref σ2.n), ("round", .int 0)]))) := set_wf (push_wf K2.wf) (by show σ.n < σ2.n + 1; (first | lia | omega))
    have W3 : Wheel ((σ2.push (.list (intsA ls).reverse)).set σ.n (.dS (putAll [] [("spokes", .ref σ2.n), ("round", .int 0)]))) σ.n σ2.n := by
      refine ⟨0, ls.reverse, set_self, (set_other push_new (by (first | lia | omega))).trans ?_, by rw [List.length_reverse]; (first | lia | omega), fun x hx => hpos x (List.mem_reverse.mp hx)⟩
      show some (AO.list (ls.map AV.int).reverse) = some (AO.list (ls.reverse.map AV.int))
      rw [List.map_reverse]
    generalize (σ2.push (.list (intsA ls).reverse)).set σ.n (.dS (putAll [] [("spokes", .ref σ2.n), ("round", .int 0)])) = σ3 at w3 W3 ⊢
    refine ⟨rfl, fun σ4 D K4 hld hm R0 => ?_⟩
    have W4 := W3.keep0 w3 K4
    refine ⟨_, rfl, rfl, _, rfl, σ.n, σ2.n, rfl, W4, fun σ5 lt TT ex K5 W5 hlt R5 hge hT hE => ?_⟩
    refine ⟨_, rfl, σ.n, σ2.n, 2, rfl, W5, by decide, by decide, fun σ6 t K6 W6 h0 h2 => ?_⟩
    refine ⟨_, .int _ _, _, rfl, rfl, ?_⟩
    have K46 := K5.trans K6
    obtain ⟨kd, d1, d2, d3, d4⟩ := R0.df
    obtain ⟨rr, ms, f1, f2, _⟩ := W4.ex
    have n1 : ¬ WW σ.n σ2.n D.ld := fun h => by
      rcases h with h | h
      · exact obj_ne R0.at_ f1 (by simp) h
      · exact obj_ne R0.at_ f2 (by simp) h
    have n2 : ¬ WW σ.n σ2.n D.m := fun h => by
      rcases h with h | h
      · exact obj_ne R0.mp f1 (by simp) h
      · exact obj_ne R0.mp f2 (by simp) h
    have n3 : ¬ WW σ.n σ2.n D.dfl := fun h => by
      rcases h with h | h
      · refine obj_ne d1 f1 (fun he => ?_) h
        injection he with he
        rw [he] at d2
        have : look [(Str.ofString "spokes", AV.ref σ2.n), (Str.ofString "round", .int rr)] "cf" = none := rfl
        rw [this] at d2
        cases d2
      · exact obj_ne d1 f2 (by simp) h
    exact ⟨σ.n, σ2.n, lt, D, TT, _, rfl, rfl, rfl, rfl, W6, R5.wheel K5.wf W5 K6, ⟨ex, hT, hE⟩, ⟨K46.at K4.wf R0.at_ n1, K46.at K4.wf R0.mp n2, kd, K46.at K4.wf d1 n3, d2, d3, d4⟩, fun zz1 σ' => q σ'⟩
end Mine
end

noncomputable section
open PySem PySem.W PyProof.Rows PySem.Calls PySem.Spec
set_option Elab.async false
set_option maxRecDepth 100000
set_option maxHeartbeats 0
set_option linter.all false
namespace Mine
/-- the law, called at the top: it gives True, and all that lay before the call stays -/
theorem law_top {prog : Program} {w : World} {p : Params} {view : Program} {loose : List Str} {mg mb : Str → Option Value} {s₁ : Shared} (KX : (hd.heap_39 p).In s₁.heap) (T : TopRead view loose mg mb s₁.heap)
    {a : Addr} {vs : List Value} {ns : List Int} (hL : s₁.heap.IsList a vs.toArray) (hI : IntsAre vs ns) (hn : ns.length ≤ 63) {Q : Value → Shared → Prop} {E : Value → Shared → Prop}
    (q : ∀ h' t', (∀ b o, s₁.heap.get? b = some o → h'.get? b = some o) → Q (.bool true) { s₁ with heap := h', toks := t' }) : wpAny (model prog w) callerA (call (.ref 300) [.ref a]) Q E s₁ := by
  have H := (law_code (C := ⟨prog, w, s₁.heap, hd.heap_39 p, view, loose, mg, mb, KX, T⟩) rfl).simN
  refine H callerA s₁ (fun zz1 => 0) ⟨0, fun zz1 => none⟩ [.lst (intsA ns)] [.ref a] (fun v zz1 => v = .bool true) Q E ⟨rfl, by decide, by decide⟩ ?_ ?_ ?_ ?_
  · exact ⟨fun zz1 zz2 e => e, Nat.le_refl _, fun l zz1 h => absurd h (Nat.not_lt_zero _), fun l h => absurd h (Nat.not_lt_zero _), fun l o e => (by cases e), fun l h => absurd h (Nat.not_lt_zero _)⟩
  · exact .cons _ _ _ _ (.lst _ a vs.toArray hL (reps_of_ints (by simpa using hI))) .nil
  · exact ⟨ns, rfl, hn, fun zz1 => rfl⟩
  · intro v u σ' μ' h' t' R N r hv
    subst hv
    cases r
    exact q h' t' R.base

theorem joined : PySem.Challenge.rw_rg0328_01.Holds := by
  refine hd rfl rfl rfl ?_
  intro w s₀ s₁ mg mb G Y fa o pm cd doc dV kV ho hda hcd hD hmg hg args vals as hpre hlay hrd hwl hlo
  have KX : (hd.heap_39 w.params).In s₁.heap := kIn_of (K := hd.heap_39) (as := hd.addrs) (e := hd.keys) Y
  refine Ground.open G ?_
  intro T B D TE TW
  clear hda hcd Y hD ho o
  have hfa := (mg_of (n := Str.ofString "law") (v := .ref 300) KX T.g rfl).symm.trans hmg
  clear hmg
  cases hfa
  have TR := topRead_of T
  wrow_args hpre hlay hrd hwl hlo
  rename_i hL _ _ _ hI _ hlen _
  refine law_top KX TR hL hI (by (first | lia | omega)) fun h' t' hk => ?_
  refine GoodW.toG ⟨.inl ⟨.bool true, .bool true, [], rfl, raisesW_false (by wrow_none_raised), .bool true, ?_, ?_⟩, hk, rfl, hg⟩
  · wrow_post
  · exact fun zz1 => ⟨List.nodup_nil, fun zz1 h => nomatch h⟩
end Mine
end

theorem PySem.Challenge.cw_rg0328_01_holds : PySem.Challenge.rw_rg0328_01.Holds := by
  exact Mine.joined
